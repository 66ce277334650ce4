/- A part of the proof of the theorem that this claim hands in: merged by a small program out of texts of my own. -/
import Derived.Test.YtlmpniofhabmiaaGreatKnoC
set_option linter.unusedVariables false
set_option linter.unusedSimpArgs false
set_option linter.unusedSectionVars false
namespace Go.Vc
open Go Go.Proofs
structure Bt where
 token:ByteArray
 stamp:Int
 array:ByteArray
 changes:List Cell
deriving DecidableEq
def encAt(l:List Int):List Int:=l.flatMap fun n=>encU (zig n)
def encC(c:Cell):List Int:=encAt c.at_++encVs c.vals
def encB(arrays:List Nm)(b:Bt):List Int:=encS b.token++encU (zig b.stamp)++encU (IntKind.u64.wrap (findA_ arrays b.array))++encU b.changes.length++b.changes.flatMap encC
theorem Acc.since{α:Type}{e:Ty α}{M N:List Nat}{w w':World}{xs:List α}{a:Option Addr}{n c:Nat}(h:Acc e M w xs a n c)(k:KpL [] w w')(hN:∀b∈N,w.heap.size≤b∧b<w'.heap.size):AccC e (N++M) w a xs a n c w' :=
 ⟨h.news k hN,k.mono (by simp),fun _ hb=>.inl hb⟩
theorem AccC.old{α β:Type}{e:Ty α}{M N:List Nat}{w0 w:World}{xs:List α}{a:Option Addr}{n c:Nat}(h:AccC e M w0 none xs a n c w){t:Ty β}{x:β}{cs:List Value}(hR:R t N w0 x cs):R t (blkL a++N) w x cs :=
 hR.fresh h.kpn fun b hb=>(h.own b hb).elim (fun h=>by simp[blkL]at h) id
theorem encU_wrapLen(n:Nat)(h:n≤1000000000):IntKind.u64.wrap (n:Int)=n:=wrap_in (ini_u64.2 (by omega))
set_option maxHeartbeats 1000000 in
theorem sBytes_ok{N Mc F:List Nat}{w:World}{s l d:Nat}{num nxt:Int}{st:Sto}{b:Bt}{ca:Option Addr}{cn cc:Nat}(hN:∀x∈N,x<w.heap.size)(h:StoreAt [] w s l d num nxt st F)(hc:R (tSl tCell) Mc w b.changes [.slice ca cn cc])
 (htok:b.token.size≤1000)(hst:InI .i64 b.stamp)(hcl:b.changes.length≤1000)(hch:∀c∈b.changes,c.at_.length≤1000∧(encVs c.vals).length≤100000):
 Calls Tryz.prog 53 #[.pointer (some ⟨s,0,none⟩),.agg #[.string b.token,.int .i64 b.stamp,.string b.array,.slice ca cn cc]] w (NewR (tI .u8) N w (encB st.arrays b)):=by
 have hmx:maxSl=140737488355328:=rfl
 obtain⟨rfl,_,_⟩:=hc.sl_len
 refine sBytes_vc fun k1 hk1 w1 hw1 hkn1=>?_
 have hM1:∀x∈k1::N,x<w1.heap.size:=by
  intro x hx
  rcases List.mem_cons.1 hx with rfl|hx
  ·exact block_lt hkn1
  ·exact Nat.lt_of_lt_of_le (hN x hx) hw1.size
 have hc1:=hc.kp0 hw1
 refine⟨(text_ok (Acc.nil' (tI .u8) hM1) (s:=b.token) (by omega)).mono ?_⟩
 rintro e w2 ⟨a1,n1,c1,rfl,hC1⟩
 rw[List.nil_append]at hC1
 have l1:=hC1.acc.len
 have hS:(encS b.token).length≤1010:=by unfold encS;rw[List.length_append,strI_len];have:=encU_len b.token.size;omega
 refine⟨_,_,_,rfl,_,hC1.kp,⟨by simp[blkL]⟩,fun hkn2=>⟨⟨ldA_blk hkn2 2 [_] rfl,ldA_blk hkn2 1 [_] rfl,trivial⟩,fun _=>⟨(signed_ok hC1.acc hst (by omega)).mono ?_⟩⟩⟩
 rintro e w3 ⟨a2,n2,c2,rfl,hC2⟩
 have hC12:=hC1.trans hC2
 have l2:=hC2.acc.len
 have hz:=encU_len (zig b.stamp)
 rw[List.length_append]at l2
 refine⟨_,_,_,rfl,_,hC2.kp,hC1.acc.out (by simp),fun hkn3=>⟨⟨ldA_blk hkn3 2 [_] rfl,trivial⟩,fun _=>⟨(find_ok ((h.kp0 hw1).kp0 hC12.kpn) b.array).mono ?_⟩⟩⟩
 rintro e w4 ⟨rfl,hw4⟩
 have hC4:=hC12.kp0 hw4
 refine⟨_,rfl,hw4,fun _=>⟨(number_ok hC4.acc (wrap_rng _ _) (by omega)).mono ?_⟩⟩
 rintro e w5 ⟨a3,n3,c3,rfl,hC5⟩
 have hC15:=hC4.trans hC5
 have l3:=hC5.acc.len
 have hz3:=encU_len (IntKind.u64.wrap (findA_ st.arrays b.array))
 rw[List.length_append,List.length_append]at l3
 refine⟨_,_,_,rfl,_,hC5.kp,hC4.acc.out (by simp),fun _=>?_⟩
 rw[encU_wrapLen _ (by omega)]
 refine⟨(number_ok hC15.acc (ini_u64.2 (by omega)) (by omega)).mono ?_⟩
 rintro e w6 ⟨a4,n4,c4,rfl,hC6⟩
 have hC16:=hC15.trans hC6
 have l4:=hC6.acc.len
 have hz4:=encU_len b.changes.length
 simp only[List.length_append]at l4
 generalize hhead:encS b.token++encU (zig b.stamp)++encU (IntKind.u64.wrap (findA_ st.arrays b.array))++encU b.changes.length=hd at *
 have hn4:n4≤2000:=by omega
 refine⟨_,_,_,rfl,_,hC6.kp,hC15.acc.out (by simp),fun vs w'=>∃(i:Nat) (a:Option Addr) (n c:Nat),vs=[.slice a n c,.int .i64 (i:Int)]∧i≤b.changes.length∧n≤2000+i*200000∧AccC (tI .u8) (k1::N) w1 none (hd++(b.changes.take i).flatMap encC) a n c w',
  fun vs _=>match vs with|[_,.int _ i]=>b.changes.length - i.toNat|_=>0,fun _=>⟨0,_,_,_,rfl,by omega,by omega,by simpa using hC16⟩,?_⟩
 rintro a5 n5 c5 i' w7 ⟨i,_,_,_,hv,hi,hnb,hC7⟩
 simp only[List.cons.injEq,Value.int.injEq,Value.slice.injEq,true_and,and_true]at hv
 obtain⟨⟨rfl,rfl,rfl⟩,rfl⟩:=hv
 constructor
 ·intro hlt
  have gi:i<b.changes.length:=by omega
  obtain⟨ad,cs,rfl,hv1,hld1,_,_⟩:=(hc1.kp0 hC7.kpn).sl_get gi
  obtain⟨_,_,_,_,_,_,hcs,_,_⟩:=hv1.cell
  have hch':=hch b.changes[i] (List.getElem_mem gi)
  have hflat:=flat_take encC b.changes i gi
  have hold:R tCell (blkL a5++Mc) w7 b.changes[i] cs:=by
   obtain⟨ad',cs',had',hv',hld',_,_⟩:=hc1.sl_get gi
   simp only[Option.some.injEq]at had'
   subst had'
   have heq:cs=cs':=by
    have h1:=hld1
    have h2:=hld'.kp hC7.kpn
    have hl1:=R.len hv1
    have hl2:=R.len hv'
    apply List.ext_getElem?
    intro j
    by_cases hj:j<tCell.sz
    ·have g1:=h1.at_ j cs[j] (List.getElem?_eq_getElem (by omega))
     have g2:=h2.at_ j cs'[j] (List.getElem?_eq_getElem (by omega))
     rw[g1]at g2
     rw[List.getElem?_eq_getElem (by omega),List.getElem?_eq_getElem (by omega)]
     exact g2
    ·rw[List.getElem?_eq_none (by omega),List.getElem?_eq_none (by omega)]
   subst heq
   exact hC7.old hv'
  obtain⟨a6,p6,q6,a7,p7,q7,rfl,hx1,hx2⟩:=hold.cell
  have hp6:=hx1.sl_len'
  generalize b.changes[i]=ch at *
  refine⟨ad,rfl,by omega,hlt,fun hkn7=>⟨_,_,_,_,_,_,hld1,fun k16 hk16=>⟨fun vs w'=>∃(j:Nat) (a:Option Addr) (n c:Nat),vs=[.slice a n c,.int .i64 (j:Int)]∧j≤ch.at_.length∧n≤n5+j*10∧k16<w'.heap.size∧
   AccC (tI .u8) ([k16]++(k1::N)) w7 a5 (hd++(b.changes.take i).flatMap encC++encAt (ch.at_.take j)) a n c w',fun vs _=>match vs with|[_,.int _ j]=>ch.at_.length - j.toNat|_=>0,fun w8 hw8 hkn8=>⟨0,_,_,_,rfl,by omega,by omega,block_lt hkn8.1,?_⟩,?_⟩⟩⟩
  ·have:=hC7.acc.since hw8 (N:=[k16]) (by simpa using ⟨hk16,block_lt hkn8.1⟩)
   simpa[encAt]using this
  rintro a8 n8 c8 j' w9 ⟨j,_,_,_,hv,hj,hnb8,hk16l,hC9⟩
  simp only[List.cons.injEq,Value.int.injEq,Value.slice.injEq,true_and,and_true]at hv
  obtain⟨⟨rfl,rfl,rfl⟩,rfl⟩:=hv
  constructor
  ·intro hlt2
   have gj:j<ch.at_.length:=by omega
   obtain⟨ad2,cs2,rfl,hv2,hld2,_,_⟩:=(hC9.data hx1).sl_get gj
   obtain⟨rfl,hok2⟩:=hv2.intD
   refine⟨ad2,rfl,by omega,by omega,fun _=>⟨_,hld2,fun _=>⟨(signed_ok hC9.acc hok2 (by omega)).mono ?_⟩⟩⟩
   rintro e w10 ⟨a9,n9,c9,rfl,hC10⟩
   have l9:=hC10.acc.len
   rw[List.length_append,←hC9.acc.len]at l9
   have hz9:=encU_len (zig ch.at_[j])
   refine⟨_,_,_,rfl,_,hC10.kp,⟨hC9.acc.out (by simp),hC9.acc.out (by simp)⟩,ini_i64.2 (by omega),fun _=>⟨⟨j+1,a9,n9,c9,rfl,by omega,by omega,Nat.lt_of_lt_of_le hk16l hC10.kp.size,?_⟩,?_⟩⟩
   ·have:=hC9.trans hC10
    have e1:encAt (ch.at_.take (j+1))=encAt (ch.at_.take j)++encU (zig ch.at_[j]):=flat_take (fun n=>encU (zig n)) ch.at_ j gj
    rw[e1,←List.append_assoc]
    exact this
   ·show ch.at_.length - ((j:Int)+1).toNat<ch.at_.length - (j:Int).toNat
    omega
  ·intro hge2 _
   have hje:j=ch.at_.length:=by omega
   subst hje
   rw[List.take_length]at hC9
   have hvals:R (tSl tVal) (blkL a8) w9 ch.vals [.slice a7 p7 q7]:=(hC9.data hx2).weak (by intro x hx;exact List.mem_append_left _ hx)
   refine⟨(values_ok hC9.acc hvals (by omega)).mono ?_⟩
   rintro e w11 ⟨a10,n10,c10,rfl,hC11⟩
   have l10:=hC11.acc.len
   rw[List.length_append,←hC9.acc.len]at l10
   refine⟨_,_,_,rfl,_,hC11.kp,⟨hC9.acc.out (by simp),hC9.acc.out (by simp)⟩,ini_i64.2 (by omega),fun _=>⟨⟨i+1,a10,n10,c10,rfl,by omega,by omega,?_⟩,?_⟩⟩
   ·have h1:=(hC9.trans hC11).weak (M':=k1::N) (by intro x hx;exact List.mem_append_right _ hx)
    have h2:=hC7.trans h1
    rw[hflat,←List.append_assoc]
    have e3:hd++(b.changes.take i).flatMap encC++encC ch=hd++(b.changes.take i).flatMap encC++encAt ch.at_++encVs ch.vals:=by unfold encC;simp only[List.append_assoc]
    rw[e3]
    exact h2
   ·show b.changes.length - ((i:Int)+1).toNat<b.changes.length - (i:Int).toNat
    omega
 ·intro hge _
  have hie:i=b.changes.length:=by omega
  subst hie
  rw[List.take_length]at hC7
  have e1:encB st.arrays b=hd++b.changes.flatMap encC:=by unfold encB;rw[hhead]
  rw[e1]
  exact⟨_,_,_,rfl,(hC7.weak (by intro x hx;simp[hx])).wide hw1⟩
end Go.Vc
namespace Go.Vc
open Go Go.Proofs
theorem MapIn.step{κ β:Type}{enc:κ→Value}{t:Ty β}{M M' N:List Nat}{w w':World}{m:Nat}{l:List (κ×β)}{arr:Array MapEntry}{clock:Nat}(h:MapIn enc t M w m l arr clock)(kp:KpL N w w')(hs:∀b∈N,b∈M∨w.heap.size≤b)
 (hn:∀b∈M',b∈M∨w.heap.size≤b):MapIn enc t M' w' m l arr clock:=by
 have hlt:=block_lt h.blk
 refine⟨(kp.blk m hlt fun hm=>(hs m hm).elim h.mM (fun hge=>by omega)).trans h.blk,h.keys,fun i e p he hp=>?_,h.born,h.old,h.nd,fun hm=>(hn m hm).elim h.mM (fun hge=>by omega)⟩
 obtain⟨cs,h1,h2⟩:=h.vals i e p he hp
 refine⟨cs,t.mono h1 fun b hb=>⟨⟨Nat.lt_of_lt_of_le hb.1 kp.size,fun hm=>?_⟩,kp.blk b hb.1 fun hm=>?_⟩,h2⟩
 ·rcases List.mem_cons.1 hm with rfl|hm
  ·exact hb.2 (by simp)
  ·rcases hn b hm with hm|hm
   ·exact hb.2 (List.mem_cons_of_mem _ hm)
   ·have:=hb.1;omega
 ·rcases hs b hm with hm|hm
  ·exact hb.2 (List.mem_cons_of_mem _ hm)
  ·have:=hb.1;omega
theorem R.oldN{α:Type}{t:Ty α}{M N N':List Nat}{w w':World}{x:α}{cs:List Value}(h:R t M w x cs)(k:KpL N w w')(hs:∀b∈N,b∈M∨w.heap.size≤b)(hn:∀b∈N',b∈M∨w.heap.size≤b):R t N' w' x cs :=
 t.mono h fun b hb=>⟨⟨Nat.lt_of_lt_of_le hb.1 k.size,fun hm=>(hn b hm).elim hb.2 (fun hge=>by have:=hb.1;omega)⟩,k.blk b hb.1 fun hm=>(hs b hm).elim hb.2 (fun hge=>by have:=hb.1;omega)⟩
theorem visited_perm{n:Nat}{vis:List Nat}(hnd:vis.Nodup)(hlt:∀i∈vis,i<n)(hall:∀i,i<n→i∈vis):vis.Perm (List.range n) :=
 (List.perm_ext_iff_of_nodup hnd List.nodup_range).2 fun i=>⟨fun h=>List.mem_range.2 (hlt i h),fun h=>hall i (List.mem_range.1 h)⟩
def atIdx{α:Type}[Inhabited α](l:List α)(vis:List Nat):List α:=vis.map fun i=>l.getD i default
theorem atIdx_perm{α:Type}[Inhabited α]{l:List α}{vis:List Nat}(h:vis.Perm (List.range l.length)):(atIdx l vis).Perm l:=by
 refine(h.map _).trans ?_
 have:(List.range l.length).map (fun i=>l.getD i default)=l:=by
  apply List.ext_getElem?
  intro i
  by_cases hi:i<l.length
  ·simp[hi]
  ·simp[hi]
 rw[this]
def encD(d:Dim):List Int:=encS d.name++encU (zig d.lo)++encU (zig d.hi)
def encA(a:Attr):List Int:=encS a.name++[a.type%256]
def encNm(x:Nm):List Int:=encS x.name++encU x.arr.dims.length++x.arr.dims.flatMap encD++encU x.arr.attrs.length++x.arr.attrs.flatMap encA
def encSeen(s:Seen):List Int:=encS s.token++encU (zig s.stamp)
def ndims(arrays:List Nm)(a:Int):Nat:=match arrays[a.toNat]? with
 |some x=>x.arr.dims.length
 |none=>0
def encPs(arrays:List Nm)(p:Pl×Sta):List Int:=encU (IntKind.u64.wrap p.1.a)++encAt (p.1.co.take (ndims arrays p.1.a))++encU (IntKind.u64.wrap p.2.batch)++encVs p.2.vals
def encBase1(arrays:List Nm)(bs:List Seen):List Int:=encU arrays.length++arrays.flatMap encNm++encU bs.length++bs.flatMap encSeen
def encBase(arrays:List Nm)(bs:List Seen)(ps:List (Pl×Sta)):List Int:=encBase1 arrays bs++encU ps.length++ps.flatMap (encPs arrays)
theorem encS_len(s:ByteArray):(encS s).length≤s.size+10:=by unfold encS;rw[List.length_append,strI_len];have:=encU_len s.size;omega
structure StoOk (arrays:List Nm) (bs:List Seen) (ps:List (Pl×Sta)):Prop where
 an:arrays.length≤1000
 a1:∀x∈arrays,x.name.size≤1000∧x.arr.dims.length≤4∧x.arr.attrs.length≤1000∧(∀d∈x.arr.dims,d.name.size≤1000)∧∀a∈x.arr.attrs,a.name.size≤1000
 bn:bs.length≤1000000
 b1:∀x∈bs,x.token.size≤1000
 pn:ps.length≤1000000
 p1:∀p∈ps,0≤p.1.a∧p.1.a<arrays.length∧(encVs p.2.vals).length≤100000
end Go.Vc
namespace Go.Vc
open Go Go.Proofs
instance plDef:Inhabited Pl:=⟨⟨0,0,0,0,0⟩⟩
instance staDef:Inhabited Sta:=⟨⟨0,[]⟩⟩
theorem apPl:ApT Tryz.prog 205 205 143 5 40:=apB_sound (by kernel_rfl)
theorem z145(w:World):(zeroValue 145).run Tryz.prog w=.ok (.agg #[.int .i64 0,.slice none 0 0]) w:=zero_of (by kernel_rfl) w
theorem getM_mem{κ β:Type}[DecidableEq κ]:∀{l:List (κ×β)} {k:κ} {v:β},(l.map (·.1)).Nodup→(k,v)∈l→getM l k=some v
 |[],_,_,_,h=>by simp at h
 |p::r,k,v,hnd,h=>by
  unfold getM
  rw[List.find?_cons]
  rcases List.mem_cons.1 h with rfl|h
  ·simp
  ·have hne:p.1≠k:=by
    rintro rfl
    rw[List.map_cons,List.nodup_cons]at hnd
    exact hnd.1 (List.mem_map.2 ⟨_,h,rfl⟩)
   simp only[hne,decide_false]
   rw[List.map_cons,List.nodup_cons]at hnd
   exact getM_mem hnd.2 h
theorem addr0(a:Addr):a.add 0=a:=by
 cases a with
 |mk b o sp=>cases sp<;>simp[Addr.add]
theorem AccC.beside{α:Type}{e:Ty α}{M F:List Nat}{w0 w w':World}{xs:List α}{a:Option Addr}{n c:Nat}(h:AccC e M w0 none xs a n c w)(k:KpL F w w')(hF:∀b∈F,w.heap.size≤b):AccC e M w0 none xs a n c w' :=
 ⟨h.acc.kpNew k fun b hb=>.inr (hF b hb),h.kp.more k fun b hb=>.inr (Nat.le_trans h.kp.size (hF b hb)),h.own⟩
def plsOf(l:List (Pl×Sta))(ks:List Pl):List (Pl×Sta):=ks.map fun k=>(k,(getM l k).getD default)
theorem plsOf_perm{l:List (Pl×Sta)}{ks:List Pl}(hnd:(l.map (·.1)).Nodup)(h:ks.Perm (l.map (·.1))):(plsOf l ks).Perm l:=by
 refine(h.map _).trans ?_
 have:(l.map (·.1)).map (fun k=>(k,(getM l k).getD default))=l:=by
  rw[List.map_map]
  conv=>rhs;rw[←List.map_id l]
  refine List.map_congr_left fun p hp=>?_
  obtain⟨k,v⟩:=p
  simp only[Function.comp_apply,getM_mem hnd hp,Option.getD_some,id]
 rw[this]
set_option maxHeartbeats 4000000 in
theorem sBase_ok{N F:List Nat}{w:World}{s l d:Nat}{num nxt:Int}{st:Sto}(hN:∀x∈N,x<w.heap.size)(h:StoreAt [] w s l d num nxt st F)(hok:StoOk st.arrays st.batches st.places):
 Calls Tryz.prog 59 #[.pointer (some ⟨s,0,none⟩)] w fun e w'=>∃ps',ps'.Perm st.places∧ps'.Pairwise (fun x y=>cmpPl x.1 y.1≤0)∧NewR (tI .u8) N w (encBase st.arrays st.batches ps') e w':=by
 have hmx:maxSl=140737488355328:=rfl
 obtain⟨m,ra,rn,rc,qa,qn,qc,h,hl,rfl⟩:=h
 have hR:=h.arr.bare
 obtain⟨hrn,_,_⟩:=hR.sl_len
 have hq:=h.bat.len
 have hRb:=(h.bat.done (by have:=hok.bn;omega)).bare
 have han:=hok.an
 have hbn:=hok.bn
 have hpn:=hok.pn
 have ld2:∀{w':World},KpL [] w w'→LdA w' ((⟨s,0,none⟩:Addr).add 2) [.slice ra rn rc]:=fun hk=>by rw[add_lit];exact ldA_blk ((hk.blk s (block_lt h.hs) (by simp)).trans h.hs) 2 _ rfl
 have ld3:∀{w':World},KpL [] w w'→LdA w' ((⟨s,0,none⟩:Addr).add 3) [.map (some m)]:=fun hk=>by rw[add_lit];exact ldA_blk ((hk.blk s (block_lt h.hs) (by simp)).trans h.hs) 3 _ rfl
 have ld4:∀{w':World},KpL [] w w'→LdA w' ((⟨s,0,none⟩:Addr).add 4) [.slice qa qn qc]:=fun hk=>by rw[add_lit];exact ldA_blk ((hk.blk s (block_lt h.hs) (by simp)).trans h.hs) 4 _ rfl
 refine sBase_vc ⟨_,_,_,ld2 (KpL.refl _ _),?_⟩
 rw[hrn,encU_wrapLen _ (by omega)]
 refine⟨(number_ok (Acc.nil' (tI .u8) hN) (ini_u64.2 (by omega)) (by omega)).mono ?_⟩
 rintro e w1 ⟨a2,n2,c2,rfl,hC1⟩
 rw[List.nil_append]at hC1
 have l1:=hC1.acc.len
 have z1:=encU_len st.arrays.length
 have ld2':=ld2 hC1.kpn
 rw[hrn]at ld2'
 refine⟨_,_,_,rfl,_,hC1.kp,_,_,_,ld2',fun vs w'=>∃(i:Nat) (a:Option Addr) (n c:Nat),vs=[.slice a n c,.int .i64 (i:Int)]∧i≤st.arrays.length∧n≤100+i*3000000∧AccC (tI .u8) N w none (encU st.arrays.length++(st.arrays.take i).flatMap encNm) a n c w',
  fun vs _=>match vs with|[_,.int _ i]=>st.arrays.length - i.toNat|_=>0,⟨0,_,_,_,rfl,by omega,by omega,by simpa using hC1⟩,?_⟩
 rintro a4 n4 c4 i' w2 ⟨i,_,_,_,hv,hi,hnb,hC2⟩
 simp only[List.cons.injEq,Value.int.injEq,Value.slice.injEq,true_and,and_true]at hv
 obtain⟨⟨rfl,rfl,rfl⟩,rfl⟩:=hv
 generalize hxs:encU st.arrays.length++(st.arrays.take i).flatMap encNm=xs at hC2
 constructor
 ·
  intro hlt
  have gi:i<st.arrays.length:=by omega
  have hflat:=flat_take encNm st.arrays i gi
  have hxok:=hok.a1 st.arrays[i] (List.getElem_mem gi)
  obtain⟨ad,cs,rfl,hv1,hld1,_,_⟩:=hR.sl_get gi
  obtain⟨a5,p5,q5,a6,p6,q6,a7,p7,q7,rfl,hnsz,hx1,hx2,hx3⟩:=hv1.nm
  have hp5:=hx1.sl_len'
  have hp6:=hx2.sl_len'
  generalize st.arrays[i]=x at *
  obtain⟨o1,o2,o3,o4,o5⟩:=hxok
  subst hp5 hp6
  refine⟨ad,rfl,by omega,hlt,_,_,_,_,_,_,_,_,_,_,hld1.kp hC2.kpn,fun k15 hk15 w3 hw3 hkn3=>?_⟩
  have hI3:=hC2.acc.since hw3 (N:=[k15]) (by simpa using ⟨hk15,block_lt hkn3⟩)
  refine⟨(text_ok hI3.acc (s:=x.name) (by omega)).mono ?_⟩
  rintro e w4 ⟨a8,n8,c8,rfl,hI4⟩
  have hI14:=hI3.trans hI4
  have l8:=hI4.acc.len
  rw[List.length_append,←hC2.acc.len]at l8
  have z8:=encS_len x.name
  refine⟨_,_,_,rfl,_,hI4.kp,hI3.acc.out (by simp),fun hkn4=>⟨⟨ldA_blk hkn4 1 _ rfl,trivial⟩,fun _=>?_⟩⟩
  rw[encU_wrapLen _ (by omega)]
  refine⟨(number_ok hI4.acc (ini_u64.2 (by omega)) (by omega)).mono ?_⟩
  rintro e w5 ⟨a9,n9,c9,rfl,hI5⟩
  have hI15:=hI14.trans hI5
  have l9:=hI5.acc.len
  rw[List.length_append,←hI4.acc.len]at l9
  have z9:=encU_len x.arr.dims.length
  generalize hys:xs++encS x.name++encU x.arr.dims.length=ys at *
  refine⟨_,_,_,rfl,_,hI5.kp,hI4.acc.out (by simp),fun vs w'=>∃(j:Nat) (a:Option Addr) (n c:Nat),vs=[.slice a n c,.int .i64 (j:Int)]∧j≤x.arr.dims.length∧n≤n4+2000+j*2000∧AccC (tI .u8) ([k15]++N) w2 a4 (ys++(x.arr.dims.take j).flatMap encD) a n c w',
   fun vs _=>match vs with|[_,.int _ i]=>x.arr.dims.length - i.toNat|_=>0,fun _=>⟨0,_,_,_,rfl,by omega,by omega,by simpa using hI15⟩,?_⟩
  rintro a10 n10 c10 j' w6 ⟨j,_,_,_,hv,hj,hnb10,hI6⟩
  simp only[List.cons.injEq,Value.int.injEq,Value.slice.injEq,true_and,and_true]at hv
  obtain⟨⟨rfl,rfl,rfl⟩,rfl⟩:=hv
  have hF6:=hC2.trans (hI6.weak (M':=N) (by intro y hy;simp[hy]))
  constructor
  ·
   intro hlt2
   have gj:j<x.arr.dims.length:=by omega
   have hflat2:=flat_take encD x.arr.dims j gj
   have hdok:=o4 x.arr.dims[j] (List.getElem_mem gj)
   obtain⟨ad2,cs2,rfl,hv2,hld2,_,_⟩:=hx1.sl_get gj
   obtain⟨rfl,hok2⟩:=hv2.dim
   generalize x.arr.dims[j]=dd at *
   refine⟨ad2,rfl,by omega,by omega,fun _=>⟨_,_,_,hld2.kp hF6.kpn,fun k22 hk22 w7 hw7 hkn7=>?_⟩⟩
   have hJ7:=hI6.acc.since hw7 (N:=[k22]) (by simpa using ⟨hk22,block_lt hkn7.1⟩)
   refine⟨(text_ok hJ7.acc (s:=dd.name) (by omega)).mono ?_⟩
   rintro e w8 ⟨a11,n11,c11,rfl,hJ8⟩
   have l11:=hJ8.acc.len
   rw[List.length_append,←hI6.acc.len]at l11
   have z11:=encS_len dd.name
   refine⟨_,_,_,rfl,_,hJ8.kp,⟨hJ7.acc.out (by simp),hJ7.acc.out (by simp)⟩,fun hkn8=>⟨⟨ldA_blk hkn8.1 2 _ rfl,ldA_blk hkn8.1 1 _ rfl,trivial⟩,fun _=>⟨(signed_ok hJ8.acc hok2.2.1 (by omega)).mono ?_⟩⟩⟩
   rintro e w9 ⟨a12,n12,c12,rfl,hJ9⟩
   have l12:=hJ9.acc.len
   rw[List.length_append,←hJ8.acc.len]at l12
   have z12:=encU_len (zig dd.lo)
   refine⟨_,_,_,rfl,_,hJ9.kp,⟨hJ8.acc.out (by simp),hJ8.acc.out (by simp)⟩,fun hkn9=>⟨⟨ldA_blk hkn9.1 2 _ rfl,trivial⟩,fun _=>⟨(signed_ok hJ9.acc hok2.2.2 (by omega)).mono ?_⟩⟩⟩
   rintro e w10 ⟨a13,n13,c13,rfl,hJ10⟩
   have l13:=hJ10.acc.len
   rw[List.length_append,←hJ9.acc.len]at l13
   have z13:=encU_len (zig dd.hi)
   have hJ:=((hJ7.trans hJ8).trans hJ9).trans hJ10
   refine⟨_,_,_,rfl,_,hJ10.kp,⟨hJ9.acc.out (by simp),hJ9.acc.out (by simp)⟩,ini_i64.2 (by omega),fun _=>⟨⟨j+1,a13,n13,c13,rfl,by omega,by omega,?_⟩,?_⟩⟩
   ·have h2:=hI6.trans (hJ.weak (M':=[k15]++N) (by intro y hy;exact List.mem_append_right _ hy))
    rw[hflat2,←List.append_assoc]
    rw[show encD dd=encS dd.name++encU (zig dd.lo)++encU (zig dd.hi) from rfl]
    simp only[List.append_assoc]at h2 ⊢
    exact h2
   ·show x.arr.dims.length - ((j:Int)+1).toNat<x.arr.dims.length - (j:Int).toNat
    omega
  ·intro hge2 _
   have hje:j=x.arr.dims.length:=by omega
   subst hje
   rw[List.take_length]at hI6
   rw[encU_wrapLen _ (by omega)]
   refine⟨(number_ok hI6.acc (ini_u64.2 (by omega)) (by omega)).mono ?_⟩
   rintro e w11 ⟨a14,n14,c14,rfl,hI11⟩
   have hI111:=hI6.trans hI11
   have l14:=hI11.acc.len
   rw[List.length_append,←hI6.acc.len]at l14
   have z14:=encU_len x.arr.attrs.length
   generalize hzs:ys++x.arr.dims.flatMap encD++encU x.arr.attrs.length=zs at *
   refine⟨_,_,_,rfl,_,hI11.kp,hI6.acc.out (by simp),fun vs w'=>∃(j:Nat) (a:Option Addr) (n c:Nat),vs=[.slice a n c,.int .i64 (j:Int)]∧j≤x.arr.attrs.length∧n≤n4+20000+j*2000∧AccC (tI .u8) ([k15]++N) w2 a4 (zs++(x.arr.attrs.take j).flatMap encA) a n c w',
    fun vs _=>match vs with|[_,.int _ i]=>x.arr.attrs.length - i.toNat|_=>0,fun _=>⟨0,_,_,_,rfl,by omega,by omega,by simpa using hI111⟩,?_⟩
   rintro a15 n15 c15 j' w12 ⟨j,_,_,_,hv,hj2,hnb15,hI12⟩
   simp only[List.cons.injEq,Value.int.injEq,Value.slice.injEq,true_and,and_true]at hv
   obtain⟨⟨rfl,rfl,rfl⟩,rfl⟩:=hv
   have hF12:=hC2.trans (hI12.weak (M':=N) (by intro y hy;simp[hy]))
   constructor
   ·
    intro hlt3
    have gj:j<x.arr.attrs.length:=by omega
    have hflat3:=flat_take encA x.arr.attrs j gj
    have haok:=o5 x.arr.attrs[j] (List.getElem_mem gj)
    obtain⟨ad3,cs3,rfl,hv3,hld3,_,_⟩:=hx2.sl_get gj
    obtain⟨rfl,hok3⟩:=hv3.attr
    generalize x.arr.attrs[j]=aa at *
    have z16:=encS_len aa.name
    have ety:IntKind.u8.wrap aa.type=aa.type%256:=wrap_u8 _
    have dec:x.arr.attrs.length - ((j:Int)+1).toNat<x.arr.attrs.length - (j:Int).toNat:=by omega
    refine⟨ad3,rfl,by omega,by omega,fun _=>⟨_,_,hld3.kp hF12.kpn,fun k33 hk33=>⟨fun w13 hw13 hkn13=>?_,fun k39 hk39 w17 hw17 hkn17=>?_⟩⟩⟩
    ·have hJ13:=hI12.acc.since hw13 (N:=[k33]) (by simpa using ⟨hk33,block_lt hkn13.1⟩)
     refine⟨(text_ok hJ13.acc (s:=aa.name) (by omega)).mono ?_⟩
     rintro e w14 ⟨a16,n16,c16,rfl,hJ14⟩
     have l16:=hJ14.acc.len
     rw[List.length_append,←hI12.acc.len]at l16
     refine⟨_,_,_,rfl,_,hJ14.kp,⟨hJ13.acc.out (by simp),hJ13.acc.out (by simp)⟩,fun hkn14=>⟨⟨ldA_blk hkn14.1 1 _ rfl,trivial⟩,fun k36 hk36 w15 hw15 hkn15=>?_⟩⟩
     have hJ15:=hJ14.acc.since hw15 (N:=[k36]) (by simpa using ⟨hk36,block_lt hkn15.1⟩)
     have hb36:=hkn15.1
     rw[ety]at hb36
     refine ev_append1 byT hJ15.acc hb36 (R.int (ini_u8.2 (by omega))) (by omega) fun a17 c17 w16 hJ16=>⟨_,_,_,rfl,_,hJ16.kp,⟨hJ15.acc.out (by simp),hJ15.acc.out (by simp),hJ15.acc.out (by simp)⟩,ini_i64.2 (by omega),fun _=>⟨⟨j+1,a17,_,c17,rfl,by omega,by omega,?_⟩,dec⟩⟩
     have h2:=hI12.trans (((hJ13.trans hJ14).trans ((hJ15.trans hJ16).weak (by intro y hy;exact List.mem_append_right _ hy))).weak (M':=[k15]++N) (by intro y hy;exact List.mem_append_right _ hy))
     rw[hflat3,←List.append_assoc]
     rw[show encA aa=encS aa.name++[aa.type%256] from rfl]
     simp only[List.append_assoc]at h2 ⊢
     exact h2
    ·have hJ17:=hI12.acc.since hw17 (N:=[k39,k33]) (by
      intro b hb
      simp at hb
      rcases hb with rfl|rfl
      ·exact⟨hk39,block_lt hkn17.1⟩
      ·exact⟨hk33,block_lt hkn17.2.1⟩)
     refine⟨(text_ok hJ17.acc (s:=aa.name) (by omega)).mono ?_⟩
     rintro e w18 ⟨a18,n18,c18,rfl,hJ18⟩
     have l18:=hJ18.acc.len
     rw[List.length_append,←hI12.acc.len]at l18
     refine⟨_,_,_,rfl,_,hJ18.kp,⟨hJ17.acc.out (by simp),hJ17.acc.out (by simp),hJ17.acc.out (by simp)⟩,fun hkn18=>?_⟩
     have hb39:=hkn18.1
     rw[ety]at hb39
     refine ev_append1 byT hJ18.acc hb39 (R.int (ini_u8.2 (by omega))) (by omega) fun a19 c19 w19 hJ19=>⟨_,_,_,rfl,_,hJ19.kp,⟨hJ18.acc.out (by simp),hJ18.acc.out (by simp),hJ18.acc.out (by simp)⟩,ini_i64.2 (by omega),fun _=>⟨⟨j+1,a19,_,c19,rfl,by omega,by omega,?_⟩,dec⟩⟩
     have h2:=hI12.trans (((hJ17.trans hJ18).trans hJ19).weak (M':=[k15]++N) (by intro y hy;exact List.mem_append_right _ hy))
     rw[hflat3,←List.append_assoc]
     rw[show encA aa=encS aa.name++[aa.type%256] from rfl]
     simp only[List.append_assoc]at h2 ⊢
     exact h2
   ·intro hge3
    have hje:j=x.arr.attrs.length:=by omega
    subst hje
    rw[List.take_length]at hF12
    refine⟨ini_i64.2 (by omega),fun _=>⟨⟨i+1,a15,n15,c15,rfl,by omega,by omega,?_⟩,?_⟩⟩
    ·rw[hflat,←List.append_assoc,hxs]
     have:xs++encNm x=zs++x.arr.attrs.flatMap encA:=by
      rw[←hzs,←hys];unfold encNm;simp only[List.append_assoc]
     rw[this]
     exact hF12
    ·show st.arrays.length - ((i:Int)+1).toNat<st.arrays.length - (i:Int).toNat
     omega
 ·intro hge
  have hie:i=st.arrays.length:=by omega
  subst hie
  rw[List.take_length]at hxs
  refine⟨_,_,_,ld4 hC2.kpn,?_⟩
  rw[hq,encU_wrapLen _ (by omega)]
  refine⟨(number_ok hC2.acc (ini_u64.2 (by omega)) (by omega)).mono ?_⟩
  rintro e w20 ⟨a21,n21,c21,rfl,hC20⟩
  have hC120:=hC2.trans hC20
  have l21:=hC20.acc.len
  rw[List.length_append,←hC2.acc.len]at l21
  have z21:=encU_len st.batches.length
  generalize hys:xs++encU st.batches.length=ys at *
  have ld4':=ld4 hC120.kpn
  rw[hq]at ld4'
  refine⟨_,_,_,rfl,_,hC20.kp,_,_,_,ld4',fun vs w'=>∃(i:Nat) (a:Option Addr) (n c:Nat),vs=[.slice a n c,.int .i64 (i:Int)]∧i≤st.batches.length∧n≤4000000000+i*2000∧AccC (tI .u8) N w none (ys++(st.batches.take i).flatMap encSeen) a n c w',
   fun vs _=>match vs with|[_,.int _ i]=>st.batches.length - i.toNat|_=>0,⟨0,_,_,_,rfl,by omega,by omega,by simpa using hC120⟩,?_⟩
  rintro a23 n23 c23 i' w21 ⟨i,_,_,_,hv,hi,hnb23,hC21⟩
  simp only[List.cons.injEq,Value.int.injEq,Value.slice.injEq,true_and,and_true]at hv
  obtain⟨⟨rfl,rfl,rfl⟩,rfl⟩:=hv
  constructor
  ·
   intro hlt
   have gi:i<st.batches.length:=by omega
   have hflat:=flat_take encSeen st.batches i gi
   have hbok:=hok.b1 st.batches[i] (List.getElem_mem gi)
   rw[hq]at hRb
   obtain⟨ad,cs,rfl,hv1,hld1,_,_⟩:=hRb.sl_get gi
   obtain⟨rfl,hok1⟩:=hv1.seen
   generalize st.batches[i]=x at *
   refine⟨ad,rfl,by omega,hlt,_,_,hld1.kp hC21.kpn,fun k52 hk52 w22 hw22 hkn22=>?_⟩
   have hJ22:=hC21.acc.since hw22 (N:=[k52]) (by simpa using ⟨hk52,block_lt hkn22⟩)
   refine⟨(text_ok hJ22.acc (s:=x.token) (by omega)).mono ?_⟩
   rintro e w23 ⟨a24,n24,c24,rfl,hJ23⟩
   have l24:=hJ23.acc.len
   rw[List.length_append,←hC21.acc.len]at l24
   have z24:=encS_len x.token
   refine⟨_,_,_,rfl,_,hJ23.kp,hJ22.acc.out (by simp),fun hkn23=>⟨⟨ldA_blk hkn23 1 _ rfl,trivial⟩,fun _=>⟨(signed_ok hJ23.acc hok1.2 (by omega)).mono ?_⟩⟩⟩
   rintro e w24 ⟨a25,n25,c25,rfl,hJ24⟩
   have l25:=hJ24.acc.len
   rw[List.length_append,←hJ23.acc.len]at l25
   have z25:=encU_len (zig x.stamp)
   refine⟨_,_,_,rfl,_,hJ24.kp,hJ23.acc.out (by simp),ini_i64.2 (by omega),fun _=>⟨⟨i+1,a25,n25,c25,rfl,by omega,by omega,?_⟩,?_⟩⟩
   ·have h2:=hC21.trans (((hJ22.trans hJ23).trans hJ24).weak (M':=N) (by intro y hy;exact List.mem_append_right _ hy))
    rw[hflat,←List.append_assoc]
    rw[show encSeen x=encS x.token++encU (zig x.stamp) from rfl]
    simp only[List.append_assoc]at h2 ⊢
    exact h2
   ·show st.batches.length - ((i:Int)+1).toNat<st.batches.length - (i:Int).toNat
    omega
  ·intro hge2
   have hie:i=st.batches.length:=by omega
   subst hie
   rw[List.take_length]at hC21
   have hb1:ys++st.batches.flatMap encSeen=encBase1 st.arrays st.batches:=by rw[←hys,←hxs];rfl
   rw[hb1]at hC21
   have hnd:=h.pls.nd
   obtain⟨arr,clock,hM21⟩:=h.pls.kp0 hC21.kpn
   have hk21:=hC21.kpn
   have hs21:=hk21.size
   have ha23:∀b∈blkL a23,b<w21.heap.size:=fun b hb=>(hC21.acc.blk_lt b hb).1
   refine⟨_,ld3 hC21.kpn,ev_range u114 hM21 fun w25 hit25 hk25=>⟨_,rfl,[],hk25,?_⟩⟩
   have hr25:=block_lt hit25.it
   generalize hr:w21.heap.size=r at *
   have hMx:∀b∈r::(blkL a23++N),b<w25.heap.size:=by
    intro b hb
    have:=hk25.size
    simp only[List.mem_cons,List.mem_append]at hb
    rcases hb with rfl|hb|hb
    ·exact hr25
    ·have:=ha23 b hb;omega
    ·have:=hN b hb;omega
   refine⟨fun vs w'=>∃(vis:List Nat) (a:Option Addr) (n c:Nat),vs=[.slice a n c]∧ItAt w' r m arr clock vis∧KpL [r] w25 w'∧Acc tPl (r::(blkL a23++N)) w' (atIdx (st.places.map (·.1)) vis) a n c∧(∀b∈blkL a,w25.heap.size≤b),
    fun vs _=>match vs with|[.slice _ n _]=>st.places.length+1 - n|_=>0,⟨[],_,_,_,rfl,hit25,KpL.refl _ _,Acc.nil' _ hMx,by simp[blkL]⟩,?_⟩
   rintro a26 n26 c26 w26 ⟨vis,_,_,_,hv,hit,hk26,hA26,hnew26⟩
   simp only[List.cons.injEq,Value.slice.injEq,and_true]at hv
   obtain⟨rfl,rfl,rfl⟩:=hv
   have hkr:∀{w':World},KpL [r] w25 w'→KpL [r] w21 w':=fun hk=>(hk25.mono (by simp)).trans hk
   have hMk:∀{w':World},KpL [r] w25 w'→MapIn Pl.enc tSta (s::l::(blkL qa++[])) w' m st.places arr clock:=fun hk=>hM21.step (hkr hk) (by intro b hb;simp at hb;subst hb;exact .inr (by omega)) fun b hb=>.inl hb
   have hM26:=hMk hk26
   have hal:arr.size=st.places.length:=hM26.len
   have hvl:vis.length≤st.places.length:=by
    have h1:=List.Nodup.length_le_of_subset hit.nd (l₂:=List.range arr.size) (fun i hi=>List.mem_range.2 (hit.lt i hi))
    simpa[hal]using h1
   have hn26:n26=vis.length:=by rw[hA26.len];simp[atIdx]
   refine ev_next_map hM26 hit (fun hall w27 hk27 hh27=>.inl ⟨rfl,[],hk27,?_⟩) (fun i p cs w27 hiv hp hRp hit27 hk27=>.inr ?_)
   rotate_left
   ·
    obtain⟨va,vn,vc,rfl,hbi,hRv⟩:=hRp.sta
    obtain⟨hil,rfl⟩:=List.getElem?_eq_some_iff.1 hp
    have hM27:=hMk (hk26.trans hk27)
    refine⟨_,_,_,_,_,_,_,_,_,rfl,[r],hk27,ev_entry_map hM27 hit27 fun p' cs' hp' hRp'=>?_⟩
    rw[List.getElem?_eq_getElem hil,Option.some.injEq]at hp'
    subst hp'
    obtain⟨va',vn',vc',rfl,_,_⟩:=hRp'.sta
    refine⟨_,_,_,_,_,_,_,_,_,rfl,[],KpL.refl _ _,fun k100 hk100 k101 hk101 w50 hw50 hkn50=>?_⟩
    have hrM:∀b∈[r],b∈r::(blkL a23++N):=by simp
    have hA50:=(hA26.kp hk27 hrM).kp0 hw50
    have hkey:=h.keys st.places[i] (List.getElem_mem hil)
    have s26:=hk26.size
    have s27:=hk27.size
    refine ev_append1 apPl hA50 (cs:=(st.places[i]).1.cells) hkn50.1 ⟨rfl,hkey⟩ (by omega) fun a' c' w51 hC51=>⟨_,_,_,rfl,_,hC51.kp,⟨⟨fun hm=>by have:=(hA26.blk_lt _ hm).1;omega⟩,⟨fun hm=>by have:=(hA26.blk_lt _ hm).1;omega⟩⟩,fun _=>⟨⟨vis++[i],a',_,c',rfl,?_,?_,?_,?_⟩,?_⟩⟩
    ·have hrn:r∉blkL a26:=fun hm=>(hA50.blk_lt r hm).2 (by simp)
     exact(hit27.keep hw50 (by simp)).keep hC51.kp hrn
    ·have h1:KpL [r] w25 w50:=(hk26.trans hk27).trans (hw50.mono (by simp))
     exact h1.more hC51.kp fun x hx=>.inr (hnew26 x hx)
    ·have e1:atIdx (st.places.map (·.1)) (vis++[i])=atIdx (st.places.map (·.1)) vis++[(st.places[i]).1]:=by
      unfold atIdx
      rw[List.map_append]
      simp[hil]
     rw[e1]
     exact hC51.acc
    ·intro b hb
     rcases hC51.own b hb with hb|hb
     ·exact hnew26 b hb
     ·have:=hw50.size;omega
    ·have h1:=List.Nodup.length_le_of_subset hit27.nd (l₂:=List.range arr.size) (fun i hi=>List.mem_range.2 (hit27.lt i hi))
     simp[hal]at h1
     show st.places.length+1 - (n26+1)<st.places.length+1 - n26
     omega
   have hperm:vis.Perm (List.range (st.places.map (·.1)).length):=by
    rw[List.length_map]
    exact visited_perm hit.nd (fun i hi=>by have:=hit.lt i hi;omega) hall
   have hps:=atIdx_perm hperm
   generalize atIdx (st.places.map (·.1)) vis=ks at *
   have hA27:=hA26.kp0 hk27
   have hn26':n26=st.places.length:=by rw[hA26.len,hps.length_eq,List.length_map]
   refine⟨(sortPl_ok hA27 (by omega)).mono ?_⟩
   rintro e w28 ⟨rfl,hk28,ks',hks,hsort,hRk⟩
   have hkp:=hks.trans hps
   have hplp:=plsOf_perm hnd hkp
   have hF:KpL (r::blkL a26) w21 w28:=(((hkr hk26).mono (by simp)).trans (hk27.mono (by simp))).trans (hk28.mono (fun x hx=>List.mem_cons_of_mem _ hx))
   have hFn:∀b∈r::blkL a26,w21.heap.size≤b:=by
    intro b hb
    rcases List.mem_cons.1 hb with rfl|hb
    ·omega
    ·have:=hnew26 b hb;have:=hk25.size;omega
   have hC28:=hC21.beside hF hFn
   have hksl:ks'.length=st.places.length:=by rw[hkp.length_eq,List.length_map]
   refine⟨rfl,_,hk28,?_⟩
   rw[hn26',encU_wrapLen _ (by omega)]
   refine⟨(number_ok hC28.acc (ini_u64.2 (by omega)) (by omega)).mono ?_⟩
   rintro e w29 ⟨a27,n27,c27,rfl,hT29⟩
   have l27:=hT29.acc.len
   rw[List.length_append,←hC28.acc.len]at l27
   have z27:=encU_len st.places.length
   generalize hws:encBase1 st.arrays st.batches++encU st.places.length=ws at *
   refine⟨_,_,_,rfl,_,hT29.kp,fun vs w'=>∃(i:Nat) (a:Option Addr) (n c:Nat),vs=[.slice a n c,.int .i64 (i:Int)]∧i≤ks'.length∧n≤7000000000+i*200000∧AccC (tI .u8) N w28 a23 (ws++((plsOf st.places ks').take i).flatMap (encPs st.arrays)) a n c w',
    fun vs _=>match vs with|[_,.int _ i]=>ks'.length - i.toNat|_=>0,⟨0,_,_,_,rfl,by omega,by omega,by simpa using hT29⟩,?_⟩
   rintro a28 n28 c28 i' w30 ⟨i,_,_,_,hv,hi,hnb28,hT30⟩
   simp only[List.cons.injEq,Value.int.injEq,Value.slice.injEq,true_and,and_true]at hv
   obtain⟨⟨rfl,rfl,rfl⟩,rfl⟩:=hv
   have hF30:=hC28.trans hT30
   constructor
   ·
    intro hlt
    have gi:i<ks'.length:=by omega
    have gi2:i<(plsOf st.places ks').length:=by simpa[plsOf]using gi
    have hflat:=flat_take (encPs st.arrays) (plsOf st.places ks') i gi2
    have hRk30:R (tSl tPl) (blkL a28++[]) w30 ks' [.slice a26 st.places.length c26]:=hT30.data (by
     have:R (tSl tPl) (r::(blkL a23++N)) w28 ks' [.slice a26 n26 c26]:=hRk
     rw[hn26']at this
     exact this.weak (by intro x hx;simp at hx;simp[hx]))
    obtain⟨ad,cs,rfl,hv1,hld1,_,_⟩:=hRk30.sl_get gi
    obtain⟨rfl,hokp⟩:=hv1.pl
    obtain⟨sta,hsta⟩:∃sta,(ks'[i],sta)∈st.places:=by
     have:ks'[i]∈st.places.map (·.1):=hkp.mem_iff.1 (List.getElem_mem gi)
     obtain⟨q,hq,he⟩:=List.mem_map.1 this
     exact⟨q.2,by rw[←he];exact hq⟩
    have hget:=getM_mem hnd hsta
    have hpi:(plsOf st.places ks')[i]=(ks'[i],sta):=by simp[plsOf,hget]
    rw[hpi]at hflat
    have hp1:=hok.p1 _ hsta
    generalize hpk:ks'[i]=p at *
    obtain⟨q1,q2,q3⟩:=hp1
    simp only at q1 q2 q3
    have ga:p.a.toNat<st.arrays.length:=by omega
    obtain⟨ad7,cs7,rfl,hv7,hld7,_,_,hpt7⟩:=hR.sl_get2 ga
    obtain⟨a31,p31,q31,a6,p6,q6,a7,p7,q7,rfl,hnsz,hx1,hx2,hx3⟩:=hv7.nm
    have hdl:=hx1.sl_len'
    have hnd4:=(hok.a1 _ (List.getElem_mem ga)).2.1
    have hndm:ndims st.arrays p.a=p31:=by unfold ndims;rw[List.getElem?_eq_getElem ga];exact hdl
    rw[hdl]at hnd4
    refine⟨ad,rfl,by omega,by omega,p.a,p.p0,p.p1,p.p2,p.p3,hld1,fun k63 hk63 w31 hw31 hkn31=>?_⟩
    have hI31:=hT30.acc.since hw31 (N:=[k63]) (by simpa using ⟨hk63,block_lt hkn31⟩)
    refine⟨(number_ok hI31.acc (wrap_rng _ _) (by omega)).mono ?_⟩
    rintro e w32 ⟨a29,n29,c29,rfl,hI32⟩
    have l29:=hI32.acc.len
    rw[List.length_append,←hT30.acc.len]at l29
    have z29:=encU_len (IntKind.u64.wrap p.a)
    have hI132:=hI31.trans hI32
    have hF32:=hF30.trans (hI132.weak (M':=N) (by intro y hy;simp[hy]))
    refine⟨_,_,_,rfl,_,hI32.kp,hI31.acc.out (by simp),_,_,_,ld2 hF32.kpn,_,rfl,by omega,by omega,a31,p31,q31,by rw[addr0];exact(hpt7 1 [_] rfl).kp hF32.kpn,fun vs w'=>∃(j:Nat) (a:Option Addr) (n c:Nat),vs=[.slice a n c,.int .i64 (j:Int)]∧j≤p31∧n≤n28+10+j*10∧k63<w'.heap.size∧
     AccC (tI .u8) ([k63]++N) w30 a28 (ws++((plsOf st.places ks').take i).flatMap (encPs st.arrays)++encU (IntKind.u64.wrap p.a)++encAt (p.co.take j)) a n c w',fun vs _=>match vs with|[_,.int _ i]=>p31 - i.toNat|_=>0,
     fun w33 hw33 hkn33=>⟨0,_,_,_,rfl,by omega,by omega,block_lt hkn33,by simpa[encAt]using hI132.kp0 hw33⟩,?_⟩
    rintro a32 n32 c32 j' w34 ⟨j,_,_,_,hv,hj,hnb32,hk63l,hI34⟩
    simp only[List.cons.injEq,Value.int.injEq,Value.slice.injEq,true_and,and_true]at hv
    obtain⟨⟨rfl,rfl,rfl⟩,rfl⟩:=hv
    constructor
    ·intro hlt2
     have hj4:j<p.co.length:=by show j<4;omega
     have hin:InI .i64 p.co[j]:=by
      have:=List.getElem_mem hj4
      simp only[Pl.co,List.mem_cons,List.not_mem_nil,or_false]at this
      rcases this with e|e|e|e<;>simp only[Pl.co,e]
      ·exact hokp.2.1
      ·exact hokp.2.2.1
      ·exact hokp.2.2.2.1
      ·exact hokp.2.2.2.2
     refine⟨by omega,by omega,fun hkn34=>⟨p.co[j],?_,fun _=>⟨(signed_ok hI34.acc hin (by omega)).mono ?_⟩⟩⟩
     ·rw[add_lit]
      refine ldA_blk hkn34 _ _ ?_
      rw[show 0+1+(j:Int).toNat*1=j+1 from by omega]
      match j,hj4 with
      |0,_=>rfl
      |1,_=>rfl
      |2,_=>rfl
      |3,_=>rfl
     rintro e w35 ⟨a33,n33,c33,rfl,hI35⟩
     have l33:=hI35.acc.len
     rw[List.length_append,←hI34.acc.len]at l33
     have z33:=encU_len (zig p.co[j])
     refine⟨_,_,_,rfl,_,hI35.kp,hI34.acc.out (by simp),ini_i64.2 (by omega),fun _=>⟨⟨j+1,a33,n33,c33,rfl,by omega,by omega,Nat.lt_of_lt_of_le hk63l hI35.kp.size,?_⟩,?_⟩⟩
     ·have e1:encAt (p.co.take (j+1))=encAt (p.co.take j)++encU (zig p.co[j]):=flat_take (fun n=>encU (zig n)) p.co j hj4
      rw[e1,←List.append_assoc]
      exact hI34.trans hI35
     ·show p31 - ((j:Int)+1).toNat<p31 - (j:Int).toNat
      omega
    ·intro hge2
     have hje:j=p31:=by omega
     subst hje
     have hF34:=hF30.trans (hI34.weak (M':=N) (by intro y hy;simp[hy]))
     have dec:ks'.length - ((i:Int)+1).toNat<ks'.length - (i:Int).toNat:=by omega
     have mapAt:∀{wx:World} {ax:Option Addr} {nx cx:Nat} {xs':List Int},AccC (tI .u8) N w none xs' ax nx cx wx→MapAt Pl.enc tSta (blkL ax) wx m st.places:=fun hC=>h.pls.step hC.kpn (by simp) fun b hb=>(hC.own b hb).elim (fun h=>by simp[blkL]at h) .inr
     have look:∀{wx:World} {ax:Option Addr} {nx cx:Nat} {xs':List Int} {Q:Value→World→Prop},AccC (tI .u8) N w none xs' ax nx cx wx→(∀va vn vc,InI .i64 sta.batch→R (tSl tVal) (blkL ax++[]) wx sta.vals [.slice va vn vc]→Q (.agg #[.int .i64 sta.batch,.slice va vn vc]) wx)→
      Ev Tryz.prog (Instr.lookup 114 (.map (some m)) (.agg #[.int .i64 p.a,.int .i64 p.p0,.int .i64 p.p1,.int .i64 p.p2,.int .i64 p.p3]) false) wx Q:=by
      intro wx ax nx cx xs' Q hC hq
      refine ev_lookup (enc:=Pl.enc) keyPl u114 z145 (mapAt hC) p false (fun x cs hg hR=>?_) (fun hg=>?_)
      ·rw[hget]at hg
       simp only[Option.some.injEq]at hg
       subst hg
       obtain⟨va,vn,vc,rfl,hb,hv⟩:=hR.sta
       exact hq va vn vc hb (hv.weak (by intro x hx;simp at hx;simp[hx]))
      ·rw[hget]at hg;cases hg
     have fin:∀{wx wy:World} {ax ay:Option Addr} {nx cx ny cy:Nat},KpL [] w34 w34→AccC (tI .u8) ([k63]++N) w34 a32 (ws++((plsOf st.places ks').take i).flatMap (encPs st.arrays)++encU (IntKind.u64.wrap p.a)++encAt (p.co.take j)++encU (IntKind.u64.wrap sta.batch)) ax nx cx wx→
      AccC (tI .u8) ([k63]++N) wx ax (ws++((plsOf st.places ks').take i).flatMap (encPs st.arrays)++encU (IntKind.u64.wrap p.a)++encAt (p.co.take j)++encU (IntKind.u64.wrap sta.batch)++encVs sta.vals) ay ny cy wy→
      ∃(i':Nat) (a:Option Addr) (n c:Nat),[Value.slice ay ny cy,.int .i64 ((i:Int)+1)]=[.slice a n c,.int .i64 (i':Int)]∧i'≤ks'.length∧n≤7000000000+i'*200000∧AccC (tI .u8) N w28 a23 (ws++((plsOf st.places ks').take i').flatMap (encPs st.arrays)) a n c wy:=by
      intro wx wy ax ay nx cx ny cy _ h1 h2
      have lx:=h1.acc.len
      have ly:=h2.acc.len
      rw[List.length_append,←hI34.acc.len]at lx
      rw[List.length_append,←h1.acc.len]at ly
      have z1:=encU_len (IntKind.u64.wrap sta.batch)
      refine⟨i+1,ay,ny,cy,rfl,by omega,by omega,?_⟩
      have h3:=hT30.trans (((hI34.trans h1).trans h2).weak (M':=N) (by intro y hy;simp[hy]))
      rw[hflat,←List.append_assoc]
      have e1:encPs st.arrays (p,sta)=encU (IntKind.u64.wrap p.a)++encAt (p.co.take j)++encU (IntKind.u64.wrap sta.batch)++encVs sta.vals:=by unfold encPs;rw[hndm]
      rw[e1]
      simp only[List.append_assoc]at h3 ⊢
      exact h3
     have pld:∀{wx:World},wx.heap[k63]?=some (.cells #[.int .i64 p.a,.int .i64 p.p0,.int .i64 p.p1,.int .i64 p.p2,.int .i64 p.p3] 143 (0,0))→LdA wx ⟨k63,0,none⟩ [.int .i64 p.a,.int .i64 p.p0,.int .i64 p.p1,.int .i64 p.p2,.int .i64 p.p3]:=fun hb=>ldA_blk hb 0 _ rfl
     have full:∀{wx:World} {ax:Option Addr} {nx cx:Nat} {xs':List Int},AccC (tI .u8) ([k63]++N) w34 a32 xs' ax nx cx wx→AccC (tI .u8) N w none xs' ax nx cx wx:=fun hC=>hF34.trans (hC.weak (by intro y hy;simp[hy]))
     have base:∀{wx:World},KpL [] w34 wx→AccC (tI .u8) ([k63]++N) w34 a32 (ws++((plsOf st.places ks').take i).flatMap (encPs st.arrays)++encU (IntKind.u64.wrap p.a)++encAt (p.co.take j)) a32 n32 c32 wx:=fun hk=>(AccC.refl hI34.acc).kp0 hk
     refine⟨_,ld3 hF34.kpn,_,ld3 hF34.kpn,fun w36 hw36 hkn36=>?_,fun w44 hw44 hkn44=>?_⟩
     ·have hB36:=base hw36
      refine look (full hB36) fun va vn vc hbi hRv=>⟨_,_,_,_,rfl,[],KpL.refl _ _,⟨by simp⟩,fun hkn37=>⟨⟨pld hkn37,ld3 (full hB36).kpn,trivial⟩,fun _=>⟨(number_ok hB36.acc (wrap_rng _ _) (by omega)).mono ?_⟩,fun _=>?_⟩⟩
      ·rintro e w38 ⟨a35,n35,c35,rfl,hN38⟩
       have hB38:=hB36.trans hN38
       have l35:=hN38.acc.len
       rw[List.length_append,←hI34.acc.len]at l35
       have z35:=encU_len (IntKind.u64.wrap sta.batch)
       refine⟨_,_,_,rfl,_,hN38.kp,hB36.acc.out (by simp),fun hkn38=>⟨⟨pld hkn38,ld3 (full hB38).kpn,trivial⟩,fun _=>look (full hB38) fun va' vn' vc' hbi' hRv'=>⟨_,_,_,_,rfl,[],KpL.refl _ _,⟨by simp⟩,fun _=>⟨(values_ok hB38.acc (hRv'.weak (by intro x hx;simp[hx])) (by omega)).mono ?_⟩⟩⟩⟩
       rintro e w40 ⟨a37,n37,c37,rfl,hV⟩
       exact⟨_,_,_,rfl,_,hV.kp,hB38.acc.out (by simp),ini_i64.2 (by omega),fun _=>⟨fin (KpL.refl _ _) hB38 hV,dec⟩⟩
      ·refine look (full hB36) fun va' vn' vc' hbi' hRv'=>⟨_,_,_,_,rfl,[],KpL.refl _ _,⟨by simp⟩,fun _=>⟨(number_ok hB36.acc (wrap_rng _ _) (by omega)).mono ?_⟩⟩
       rintro e w42 ⟨a39,n39,c39,rfl,hN42⟩
       have hB42:=hB36.trans hN42
       have l39:=hN42.acc.len
       rw[List.length_append,←hI34.acc.len]at l39
       have z39:=encU_len (IntKind.u64.wrap sta.batch)
       refine⟨_,_,_,rfl,_,hN42.kp,hB36.acc.out (by simp),fun _=>⟨(values_ok hB42.acc ((hN42.data hRv').weak (by intro x hx;simp[hx])) (by omega)).mono ?_⟩⟩
       rintro e w43 ⟨a40,n40,c40,rfl,hV⟩
       exact⟨_,_,_,rfl,_,hV.kp,hB42.acc.out (by simp),ini_i64.2 (by omega),fun _=>⟨fin (KpL.refl _ _) hB42 hV,dec⟩⟩
     ·have hB44:=base hw44
      refine look (full hB44) fun va vn vc hbi hRv=>⟨_,_,_,_,rfl,[],KpL.refl _ _,⟨by simp⟩,fun hkn45=>⟨⟨pld hkn45,ld3 (full hB44).kpn,trivial⟩,fun _=>look (full hB44) fun va' vn' vc' hbi' hRv'=>⟨_,_,_,_,rfl,[],KpL.refl _ _,⟨by simp⟩,fun _=>⟨(number_ok hB44.acc (wrap_rng _ _) (by omega)).mono ?_⟩⟩⟩⟩
      rintro e w47 ⟨a43,n43,c43,rfl,hN47⟩
      have hB47:=hB44.trans hN47
      have l43:=hN47.acc.len
      rw[List.length_append,←hI34.acc.len]at l43
      have z43:=encU_len (IntKind.u64.wrap sta.batch)
      refine⟨_,_,_,rfl,_,hN47.kp,hB44.acc.out (by simp),fun _=>⟨(values_ok hB47.acc ((hN47.data hRv).weak (by intro x hx;simp[hx])) (by omega)).mono ?_⟩⟩
      rintro e w48 ⟨a44,n44,c44,rfl,hV⟩
      exact⟨_,_,_,rfl,_,hV.kp,hB47.acc.out (by simp),ini_i64.2 (by omega),fun _=>⟨fin (KpL.refl _ _) hB47 hV,dec⟩⟩
   ·intro hge3
    have hie:i=ks'.length:=by omega
    subst hie
    have hful:(plsOf st.places ks').take ks'.length=plsOf st.places ks':=List.take_of_length_le (by simp[plsOf])
    rw[hful]at hF30
    refine⟨plsOf st.places ks',hplp,?_,_,_,_,rfl,?_⟩
    ·unfold plsOf
     rw[List.pairwise_map]
     exact hsort
    ·have:encBase st.arrays st.batches (plsOf st.places ks')=ws++(plsOf st.places ks').flatMap (encPs st.arrays):=by
      unfold encBase
      rw[hplp.length_eq,hws]
     rw[this]
     exact hF30
end Go.Vc
namespace Go.Vc
open Go Go.Proofs
open Go.Value Go.Ending Go.IntKind
set_option maxRecDepth 100000
theorem sCommit_vc{s l:Nat}{id:Int}{ra:Option Addr}{rn rc:Nat}{mo:Option Nat}{qa:Option Addr}{qn qc:Nat}{us:Int}{tok:ByteArray}{stp:Int}{arn:ByteArray}{ca:Option Addr}{cn cc:Nat}{w:World}{R:Ending→World→Prop}
 (hk:Hb w s #[pointer (some (Addr.mk l 0 none)),int i64 id,slice ra rn rc,map mo,slice qa qn qc,int i64 us] 116)
 (h :
 ∀k1,w.heap.size≤k1→
 ∀k2,w.heap.size≤k2→
 ∀w1,KpL [] w w1→
 Hb w1 k2 #[string tok,int i64 stp] 112∧
 Hb w1 k1 #[string tok,int i64 stp,string arn,slice ca cn cc] 48∧
 Hb w1 s #[pointer (some (Addr.mk l 0 none)),int i64 id,slice ra rn rc,map mo,slice qa qn qc,int i64 us] 116→
 Ev Tryz.prog (Builtin.append_ #[110,110] 110 #[slice qa qn qc,slice (some (Addr.mk k2 0 none)) 1 1]) w1 fun y1 w2 =>
 ∃a1 k3 k4,y1=slice a1 k3 k4∧
 ∃l1,KpL l1 w1 w2∧
 (NotIn k2 l1∧
 NotIn k1 l1∧
 NotIn s l1)∧
 ∀w3,KpL [s] w2 w3→
 Hb w3 k2 #[string tok,int i64 stp] 112∧
 Hb w3 k1 #[string tok,int i64 stp,string arn,slice ca cn cc] 48∧
 Hb w3 s #[pointer (some (Addr.mk l 0 none)),int i64 id,slice ra rn rc,map mo,slice a1 k3 k4,int i64 us] 116→
 CallW Tryz.prog 103 #[pointer (some (Addr.mk s 0 none)),string arn] w3 fun e1 w4 =>
 ∃n1,e1=returned (int i64 n1)∧
 KpL [] w3 w4∧
 ∃(P1:List Value→World→Prop) (P2:List Value→World→Nat),(Hb w4 k2 #[string tok,int i64 stp] 112∧
 Hb w4 k1 #[string tok,int i64 stp,string arn,slice ca cn cc] 48∧
 Hb w4 s #[pointer (some (Addr.mk l 0 none)),int i64 id,slice ra rn rc,map mo,slice a1 k3 k4,int i64 us] 116→
 P1 [int i64 0] w4)∧
 ∀n2 w5,P1 [int i64 n2] w5→
 (n2<(↑cn:Int)→
 ∃d1,ca=some d1∧
 0≤n2∧
 n2<(↑cn:Int)∧
 (Hb w5 k2 #[string tok,int i64 stp] 112∧
 Hb w5 k1 #[string tok,int i64 stp,string arn,slice ca cn cc] 48∧
 Hb w5 s #[pointer (some (Addr.mk l 0 none)),int i64 id,slice ra rn rc,map mo,slice a1 k3 k4,int i64 us] 116→
 ∃a2 k5 k6 a3 k7 k8,LdA w5 (d1.add (n2.toNat*2)) [slice a2 k5 k6,slice a3 k7 k8]∧
 ∀k9,w5.heap.size≤k9→
 ∀w6,KpL [] w5 w6→
 Hb w6 k9 #[slice a2 k5 k6,slice a3 k7 k8] 81∧
 Hb w6 k2 #[string tok,int i64 stp] 112∧
 Hb w6 k1 #[string tok,int i64 stp,string arn,slice ca cn cc] 48∧
 Hb w6 s #[pointer (some (Addr.mk l 0 none)),int i64 id,slice ra rn rc,map mo,slice a1 k3 k4,int i64 us] 116→
 CallW Tryz.prog 78 #[int i64 n1,slice a2 k5 k6] w6 fun e2 w7 =>
 ∃n3 n4 n5 n6 n7,e2=returned (agg #[int i64 n3,int i64 n4,int i64 n5,int i64 n6,int i64 n7])∧
 KpL [] w6 w7∧
 ∀k10,w7.heap.size≤k10→
 ∀w8,KpL [] w7 w8→
 Hb w8 k10 #[int i64 n3,int i64 n4,int i64 n5,int i64 n6,int i64 n7] 143∧
 Hb w8 k9 #[slice a2 k5 k6,slice a3 k7 k8] 81∧
 Hb w8 k2 #[string tok,int i64 stp] 112∧
 Hb w8 k1 #[string tok,int i64 stp,string arn,slice ca cn cc] 48∧
 Hb w8 s #[pointer (some (Addr.mk l 0 none)),int i64 id,slice ra rn rc,map mo,slice a1 k3 k4,int i64 us] 116→
 Ev Tryz.prog (Instr.lookup 114 (map mo) (agg #[int i64 n3,int i64 n4,int i64 n5,int i64 n6,int i64 n7]) false) w8 fun y2 w9 =>
 ∃n8 a4 k11 k12,y2=agg #[int i64 n8,slice a4 k11 k12]∧
 ∃l2,KpL l2 w8 w9∧
 (NotIn k10 l2∧
 NotIn k9 l2∧
 NotIn k2 l2∧
 NotIn k1 l2∧
 NotIn s l2)∧
 (Hb w9 k10 #[int i64 n3,int i64 n4,int i64 n5,int i64 n6,int i64 n7] 143∧
 Hb w9 k9 #[slice a2 k5 k6,slice a3 k7 k8] 81∧
 Hb w9 k2 #[string tok,int i64 stp] 112∧
 Hb w9 k1 #[string tok,int i64 stp,string arn,slice ca cn cc] 48∧
 Hb w9 s #[pointer (some (Addr.mk l 0 none)),int i64 id,slice ra rn rc,map mo,slice a1 k3 k4,int i64 us] 116→
 CallW Tryz.prog 115 #[pointer (some (Addr.mk s (0:Nat) none)),int i64 (↑k3:Int),int i64 n8] w9 fun e3 w10 =>
 ∃b1,e3=returned (Value.bool b1)∧
 KpL [] w9 w10∧
 (b1=true→
 ∀w11,KpL [] w10 w11→
 Hb w11 k10 #[int i64 n3,int i64 n4,int i64 n5,int i64 n6,int i64 n7] 143∧
 Hb w11 k9 #[slice a2 k5 k6,slice a3 k7 k8] 81∧
 Hb w11 k2 #[string tok,int i64 stp] 112∧
 Hb w11 k1 #[string tok,int i64 stp,string arn,slice ca cn cc] 48∧
 Hb w11 s #[pointer (some (Addr.mk l 0 none)),int i64 id,slice ra rn rc,map mo,slice a1 k3 k4,int i64 us] 116→
 CallW Tryz.prog 77 #[slice a3 k7 k8] w11 fun e4 w12 =>
 ∃a5 k13 k14,e4=returned (slice a5 k13 k14)∧
 KpL [] w11 w12∧
 (Hb w12 k10 #[int i64 n3,int i64 n4,int i64 n5,int i64 n6,int i64 n7] 143∧
 Hb w12 k9 #[slice a2 k5 k6,slice a3 k7 k8] 81∧
 Hb w12 k2 #[string tok,int i64 stp] 112∧
 Hb w12 k1 #[string tok,int i64 stp,string arn,slice ca cn cc] 48∧
 Hb w12 s #[pointer (some (Addr.mk l 0 none)),int i64 id,slice ra rn rc,map mo,slice a1 k3 k4,int i64 us] 116→
 Ev Tryz.prog (do
 Instr.mapUpdate (114:Nat) (map mo) (agg #[int i64 n3,int i64 n4,int i64 n5,int i64 n6,int i64 n7]) (agg #[int i64 (↑k3:Int),slice a5 k13 k14])
 pure undef) w12 fun y3 w13 =>
 y3=tuple #[]∧
 ∃l3,KpL l3 w12 w13∧
 (NotIn k10 l3∧
 NotIn k9 l3∧
 NotIn k2 l3∧
 NotIn k1 l3∧
 NotIn s l3)∧
 InI i64 (n2+1)∧
 (Hb w13 k10 #[int i64 n3,int i64 n4,int i64 n5,int i64 n6,int i64 n7] 143∧
 Hb w13 k9 #[slice a2 k5 k6,slice a3 k7 k8] 81∧
 Hb w13 k2 #[string tok,int i64 stp] 112∧
 Hb w13 k1 #[string tok,int i64 stp,string arn,slice ca cn cc] 48∧
 Hb w13 s #[pointer (some (Addr.mk l 0 none)),int i64 id,slice ra rn rc,map mo,slice a1 k3 k4,int i64 us] 116→
 P1 [int i64 (n2+1)] w13∧
 P2 [int i64 (n2+1)] w13<P2 [int i64 n2] w5)))∧
 (b1=false→
 InI i64 (n2+1)∧
 (Hb w10 k10 #[int i64 n3,int i64 n4,int i64 n5,int i64 n6,int i64 n7] 143∧
 Hb w10 k9 #[slice a2 k5 k6,slice a3 k7 k8] 81∧
 Hb w10 k2 #[string tok,int i64 stp] 112∧
 Hb w10 k1 #[string tok,int i64 stp,string arn,slice ca cn cc] 48∧
 Hb w10 s #[pointer (some (Addr.mk l 0 none)),int i64 id,slice ra rn rc,map mo,slice a1 k3 k4,int i64 us] 116→
 P1 [int i64 (n2+1)] w10∧
 P2 [int i64 (n2+1)] w10<P2 [int i64 n2] w5)))))∧
 (¬n2<(↑cn:Int)→
 ∀w14,KpL [] w5 w14→
 Hb w14 k2 #[string tok,int i64 stp] 112∧
 Hb w14 k1 #[string tok,int i64 stp,string arn,slice ca cn cc] 48∧
 Hb w14 s #[pointer (some (Addr.mk l 0 none)),int i64 id,slice ra rn rc,map mo,slice a1 k3 k4,int i64 us] 116→
 CallW Tryz.prog 49 (#[agg #[string tok,int i64 stp,string arn,slice ca cn cc]]) w14 fun e5 w15 =>
 ∃n9,e5=returned (int i64 n9)∧
 KpL [] w14 w15∧
 InI i64 (us+n9)∧
 ∀w16,KpL [s] w15 w16→
 Hb w16 k2 #[string tok,int i64 stp] 112∧
 Hb w16 k1 #[string tok,int i64 stp,string arn,slice ca cn cc] 48∧
 Hb w16 s #[pointer (some (Addr.mk l 0 none)),int i64 id,slice ra rn rc,map mo,slice a1 k3 k4,int i64 (us+n9)] 116→
 R (returned (tuple #[])) w16)):Calls Tryz.prog 54 #[pointer (some (Addr.mk s 0 none)),agg #[string tok,int i64 stp,string arn,slice ca cn cc]] w R :=
 fncK (an:={ loops:=[⟨4,[35],[7,8,36,37,38,39,40,41,42,43,44,45,46,47,48,49,50,51,52,53,54,55,56,57,58,59,60,61,62,63],[]⟩],all:=true }) (args:=[.a (.c (.loc 0 0)),.a (.agg [.v (.string tok),.v (.int .i64 stp),.v (.string arn),.v (.slice ca cn cc)])]) (rho:=[s]) (hp:=[(0,116,[.v (.pointer (some ⟨l,0,none⟩)),.v (.int .i64 id),.v (.slice ra rn rc),.v (.map mo),.v (.slice qa qn qc),.v (.int .i64 us)])]) Tryz_ok Tryz.func54 (by kernel_rfl) rfl rfl hk (by simp) (by simpa using block_lt hk) rfl (by simp) h
theorem sCheck_vc{s l:Nat}{id:Int}{ra:Option Addr}{rn rc:Nat}{mo:Option Nat}{qa:Option Addr}{qn qc:Nat}{us:Int}{tok:ByteArray}{stp:Int}{arn:ByteArray}{ca:Option Addr}{cn cc:Nat}{w:World}{R:Ending→World→Prop}
 (hk:Hb w s #[pointer (some (Addr.mk l 0 none)),int i64 id,slice ra rn rc,map mo,slice qa qn qc,int i64 us] 116)
 (h :
 ∀k1,w.heap.size≤k1→
 ∀w1,KpL [] w w1→
 Hb w1 k1 #[string tok,int i64 stp,string arn,slice ca cn cc] 48∧
 Hb w1 s #[pointer (some (Addr.mk l 0 none)),int i64 id,slice ra rn rc,map mo,slice qa qn qc,int i64 us] 116→
 CallW Tryz.prog 103 #[pointer (some (Addr.mk s 0 none)),string arn] w1 fun e1 w2 =>
 ∃n1,e1=returned (int i64 n1)∧
 KpL [] w1 w2∧
 (Hb w2 k1 #[string tok,int i64 stp,string arn,slice ca cn cc] 48∧
 Hb w2 s #[pointer (some (Addr.mk l 0 none)),int i64 id,slice ra rn rc,map mo,slice qa qn qc,int i64 us] 116→
 CallW Tryz.prog 98 #[string tok] w2 fun e2 w3 =>
 ∃b1,e2=returned (Value.bool b1)∧
 KpL [] w2 w3∧
 ((!b1)=true→
 Hb w3 k1 #[string tok,int i64 stp,string arn,slice ca cn cc] 48∧
 Hb w3 s #[pointer (some (Addr.mk l 0 none)),int i64 id,slice ra rn rc,map mo,slice qa qn qc,int i64 us] 116→
 R (returned (int i64 11)) w3)∧
 ((!b1)=false→
 (¬stp<0→
 (1099511627776<stp→
 Hb w3 k1 #[string tok,int i64 stp,string arn,slice ca cn cc] 48∧
 Hb w3 s #[pointer (some (Addr.mk l 0 none)),int i64 id,slice ra rn rc,map mo,slice qa qn qc,int i64 us] 116→
 R (returned (int i64 3)) w3)∧
 (¬1099511627776<stp→
 (n1<0→
 Hb w3 k1 #[string tok,int i64 stp,string arn,slice ca cn cc] 48∧
 Hb w3 s #[pointer (some (Addr.mk l 0 none)),int i64 id,slice ra rn rc,map mo,slice qa qn qc,int i64 us] 116→
 R (returned (int i64 4)) w3)∧
 (¬n1<0→
 (¬(↑cn:Int)<(1:Int)→
 ((16:Int)<(↑cn:Int)→
 Hb w3 k1 #[string tok,int i64 stp,string arn,slice ca cn cc] 48∧
 Hb w3 s #[pointer (some (Addr.mk l 0 none)),int i64 id,slice ra rn rc,map mo,slice qa qn qc,int i64 us] 116→
 R (returned (int i64 9)) w3)∧
 (¬(16:Int)<(↑cn:Int)→
 ∃d1,ra=some d1∧
 0≤n1∧
 n1<(↑rn:Int)∧
 (Hb w3 k1 #[string tok,int i64 stp,string arn,slice ca cn cc] 48∧
 Hb w3 s #[pointer (some (Addr.mk l 0 none)),int i64 id,slice ra rn rc,map mo,slice qa qn qc,int i64 us] 116→
 ∃a1 k2 k3 a2 k4 k5 a3 k6 k7,LdA w3 ((d1.add (n1.toNat*4)).add 1) [slice a1 k2 k3,slice a2 k4 k5,slice a3 k6 k7]∧
 ∀k8,w3.heap.size≤k8→
 ∀w4,KpL [] w3 w4→
 Hb w4 k8 #[slice a1 k2 k3,slice a2 k4 k5,slice a3 k6 k7] 58∧
 Hb w4 k1 #[string tok,int i64 stp,string arn,slice ca cn cc] 48∧
 Hb w4 s #[pointer (some (Addr.mk l 0 none)),int i64 id,slice ra rn rc,map mo,slice qa qn qc,int i64 us] 116→
 CallW Tryz.prog 104 #[slice a1 k2 k3] w4 fun e3 w5 =>
 ∃a4 k9 k10 a5 k11 k12 n2,e3=returned (tuple #[agg #[slice a4 k9 k10,slice a5 k11 k12],int i64 n2])∧
 KpL [] w4 w5∧
 ∀k13,w5.heap.size≤k13→
 ∃(P1:List Value→World→Prop) (P2:List Value→World→Nat),(∀w6,KpL [] w5 w6→
 Hb w6 k13 #[slice a4 k9 k10,slice a5 k11 k12] 189∧
 Hb w6 k8 #[slice a1 k2 k3,slice a2 k4 k5,slice a3 k6 k7] 58∧
 Hb w6 k1 #[string tok,int i64 stp,string arn,slice ca cn cc] 48∧
 Hb w6 s #[pointer (some (Addr.mk l 0 none)),int i64 id,slice ra rn rc,map mo,slice qa qn qc,int i64 us] 116→
 P1 [int i64 0] w6)∧
 ∀n3 w7,P1 [int i64 n3] w7→
 (n3<(↑k11:Int)→
 ∃d2,a5=some d2∧
 0≤n3∧
 n3<(↑k11:Int)∧
 (Hb w7 k13 #[slice a4 k9 k10,slice a5 k11 k12] 189∧
 Hb w7 k8 #[slice a1 k2 k3,slice a2 k4 k5,slice a3 k6 k7] 58∧
 Hb w7 k1 #[string tok,int i64 stp,string arn,slice ca cn cc] 48∧
 Hb w7 s #[pointer (some (Addr.mk l 0 none)),int i64 id,slice ra rn rc,map mo,slice qa qn qc,int i64 us] 116→
 ∃n4,LdA w7 (d2.add (n3.toNat*1)) [int i64 n4]∧
 ∃n5,Pv Tryz.prog (Builtin.min_ #[3,3] 3 #[int i64 n4,int i64 1073741824]) (int i64 n5)∧
 ∃d3,a5=some d3∧
 0≤n3∧
 n3<(↑k11:Int)∧
 (Hb w7 k13 #[slice a4 k9 k10,slice a5 k11 k12] 189∧
 Hb w7 k8 #[slice a1 k2 k3,slice a2 k4 k5,slice a3 k6 k7] 58∧
 Hb w7 k1 #[string tok,int i64 stp,string arn,slice ca cn cc] 48∧
 Hb w7 s #[pointer (some (Addr.mk l 0 none)),int i64 id,slice ra rn rc,map mo,slice qa qn qc,int i64 us] 116→
 (∃l1,LdA w7 (d3.add (n3.toNat*1)) l1∧
 l1.length=1)∧
 NotFrozen w7 (d3.add (n3.toNat*1)) 1∧
 (NotIn k13 [(d3.add (n3.toNat*1)).block]∧
 NotIn k8 [(d3.add (n3.toNat*1)).block]∧
 NotIn k1 [(d3.add (n3.toNat*1)).block]∧
 NotIn s [(d3.add (n3.toNat*1)).block])∧
 ∀w8,w8=stA w7 (d3.add (n3.toNat*1)) [int i64 n5] 0→
 InI i64 (n3+1)∧
 (Hb w8 k13 #[slice a4 k9 k10,slice a5 k11 k12] 189∧
 Hb w8 k8 #[slice a1 k2 k3,slice a2 k4 k5,slice a3 k6 k7] 58∧
 Hb w8 k1 #[string tok,int i64 stp,string arn,slice ca cn cc] 48∧
 Hb w8 s #[pointer (some (Addr.mk l 0 none)),int i64 id,slice ra rn rc,map mo,slice qa qn qc,int i64 us] 116→
 P1 [int i64 (n3+1)] w8∧
 P2 [int i64 (n3+1)] w8<P2 [int i64 n3] w7))))∧
 (¬n3<(↑k11:Int)→
 ∃(P3:List Value→World→Prop) (P4:List Value→World→Nat),(Hb w7 k13 #[slice a4 k9 k10,slice a5 k11 k12] 189∧
 Hb w7 k8 #[slice a1 k2 k3,slice a2 k4 k5,slice a3 k6 k7] 58∧
 Hb w7 k1 #[string tok,int i64 stp,string arn,slice ca cn cc] 48∧
 Hb w7 s #[pointer (some (Addr.mk l 0 none)),int i64 id,slice ra rn rc,map mo,slice qa qn qc,int i64 us] 116→
 P3 [int i64 0] w7)∧
 ∀n6 w9,P3 [int i64 n6] w9→
 (n6<(↑cn:Int)→
 ∃d4,ca=some d4∧
 0≤n6∧
 n6<(↑cn:Int)∧
 (Hb w9 k13 #[slice a4 k9 k10,slice a5 k11 k12] 189∧
 Hb w9 k8 #[slice a1 k2 k3,slice a2 k4 k5,slice a3 k6 k7] 58∧
 Hb w9 k1 #[string tok,int i64 stp,string arn,slice ca cn cc] 48∧
 Hb w9 s #[pointer (some (Addr.mk l 0 none)),int i64 id,slice ra rn rc,map mo,slice qa qn qc,int i64 us] 116→
 ∃a6 k14 k15 a7 k16 k17,LdA w9 (d4.add (n6.toNat*2)) [slice a6 k14 k15,slice a7 k16 k17]∧
 ∀k18,w9.heap.size≤k18→
 (¬(↑k14:Int)≠(↑k2:Int)→
 ((↑k16:Int)≠(0:Int)→
 ((↑k16:Int)≠(↑k4:Int)→
 ∀w10,KpL [] w9 w10→
 Hb w10 k18 #[slice a6 k14 k15,slice a7 k16 k17] 81∧
 Hb w10 k13 #[slice a4 k9 k10,slice a5 k11 k12] 189∧
 Hb w10 k8 #[slice a1 k2 k3,slice a2 k4 k5,slice a3 k6 k7] 58∧
 Hb w10 k1 #[string tok,int i64 stp,string arn,slice ca cn cc] 48∧
 Hb w10 s #[pointer (some (Addr.mk l 0 none)),int i64 id,slice ra rn rc,map mo,slice qa qn qc,int i64 us] 116→
 R (returned (int i64 13)) w10)∧
 (¬(↑k16:Int)≠(↑k4:Int)→
 ∀w11,KpL [] w9 w11→
 Hb w11 k18 #[slice a6 k14 k15,slice a7 k16 k17] 81∧
 Hb w11 k13 #[slice a4 k9 k10,slice a5 k11 k12] 189∧
 Hb w11 k8 #[slice a1 k2 k3,slice a2 k4 k5,slice a3 k6 k7] 58∧
 Hb w11 k1 #[string tok,int i64 stp,string arn,slice ca cn cc] 48∧
 Hb w11 s #[pointer (some (Addr.mk l 0 none)),int i64 id,slice ra rn rc,map mo,slice qa qn qc,int i64 us] 116→
 CallW Tryz.prog 105 (#[agg #[slice a4 k9 k10,slice a5 k11 k12],slice a6 k14 k15]) w11 fun e4 w12 =>
 ∃b2,e4=returned (Value.bool b2)∧
 KpL [] w11 w12∧
 ((!b2)=true→
 Hb w12 k18 #[slice a6 k14 k15,slice a7 k16 k17] 81∧
 Hb w12 k13 #[slice a4 k9 k10,slice a5 k11 k12] 189∧
 Hb w12 k8 #[slice a1 k2 k3,slice a2 k4 k5,slice a3 k6 k7] 58∧
 Hb w12 k1 #[string tok,int i64 stp,string arn,slice ca cn cc] 48∧
 Hb w12 s #[pointer (some (Addr.mk l 0 none)),int i64 id,slice ra rn rc,map mo,slice qa qn qc,int i64 us] 116→
 R (returned (int i64 3)) w12)∧
 ((!b2)=false→
 ∃(P5:List Value→World→Prop) (P6:List Value→World→Nat),(Hb w12 k18 #[slice a6 k14 k15,slice a7 k16 k17] 81∧
 Hb w12 k13 #[slice a4 k9 k10,slice a5 k11 k12] 189∧
 Hb w12 k8 #[slice a1 k2 k3,slice a2 k4 k5,slice a3 k6 k7] 58∧
 Hb w12 k1 #[string tok,int i64 stp,string arn,slice ca cn cc] 48∧
 Hb w12 s #[pointer (some (Addr.mk l 0 none)),int i64 id,slice ra rn rc,map mo,slice qa qn qc,int i64 us] 116→
 P5 [int i64 0] w12)∧
 ∀n7 w13,P5 [int i64 n7] w13→
 (n7<(↑k16:Int)→
 ∃d5,a7=some d5∧
 0≤n7∧
 n7<(↑k16:Int)∧
 (Hb w13 k18 #[slice a6 k14 k15,slice a7 k16 k17] 81∧
 Hb w13 k13 #[slice a4 k9 k10,slice a5 k11 k12] 189∧
 Hb w13 k8 #[slice a1 k2 k3,slice a2 k4 k5,slice a3 k6 k7] 58∧
 Hb w13 k1 #[string tok,int i64 stp,string arn,slice ca cn cc] 48∧
 Hb w13 s #[pointer (some (Addr.mk l 0 none)),int i64 id,slice ra rn rc,map mo,slice qa qn qc,int i64 us] 116→
 ∃n8 n9 n10 s1,LdA w13 (d5.add (n7.toNat*4)) [int i64 n8,int i64 n9,int i64 n10,string s1]∧
 ∀k19,w13.heap.size≤k19→
 ∃d6,a2=some d6∧
 0≤n7∧
 n7<(↑k4:Int)∧
 ∃n11,LdA w13 ((d6.add (n7.toNat*2)).add 1) [int i64 n11]∧
 ∀w14,KpL [] w13 w14→
 Hb w14 k19 #[int i64 n8,int i64 n9,int i64 n10,string s1] 161∧
 Hb w14 k18 #[slice a6 k14 k15,slice a7 k16 k17] 81∧
 Hb w14 k13 #[slice a4 k9 k10,slice a5 k11 k12] 189∧
 Hb w14 k8 #[slice a1 k2 k3,slice a2 k4 k5,slice a3 k6 k7] 58∧
 Hb w14 k1 #[string tok,int i64 stp,string arn,slice ca cn cc] 48∧
 Hb w14 s #[pointer (some (Addr.mk l 0 none)),int i64 id,slice ra rn rc,map mo,slice qa qn qc,int i64 us] 116→
 CallW Tryz.prog 106 (#[agg #[int i64 n8,int i64 n9,int i64 n10,string s1],int i64 n11]) w14 fun e5 w15 =>
 ∃b3,e5=returned (Value.bool b3)∧
 KpL [] w14 w15∧
 ((!b3)=true→
 Hb w15 k19 #[int i64 n8,int i64 n9,int i64 n10,string s1] 161∧
 Hb w15 k18 #[slice a6 k14 k15,slice a7 k16 k17] 81∧
 Hb w15 k13 #[slice a4 k9 k10,slice a5 k11 k12] 189∧
 Hb w15 k8 #[slice a1 k2 k3,slice a2 k4 k5,slice a3 k6 k7] 58∧
 Hb w15 k1 #[string tok,int i64 stp,string arn,slice ca cn cc] 48∧
 Hb w15 s #[pointer (some (Addr.mk l 0 none)),int i64 id,slice ra rn rc,map mo,slice qa qn qc,int i64 us] 116→
 R (returned (int i64 12)) w15)∧
 ((!b3)=false→
 InI i64 (n7+1)∧
 (Hb w15 k19 #[int i64 n8,int i64 n9,int i64 n10,string s1] 161∧
 Hb w15 k18 #[slice a6 k14 k15,slice a7 k16 k17] 81∧
 Hb w15 k13 #[slice a4 k9 k10,slice a5 k11 k12] 189∧
 Hb w15 k8 #[slice a1 k2 k3,slice a2 k4 k5,slice a3 k6 k7] 58∧
 Hb w15 k1 #[string tok,int i64 stp,string arn,slice ca cn cc] 48∧
 Hb w15 s #[pointer (some (Addr.mk l 0 none)),int i64 id,slice ra rn rc,map mo,slice qa qn qc,int i64 us] 116→
 P5 [int i64 (n7+1)] w15∧
 P6 [int i64 (n7+1)] w15<P6 [int i64 n7] w13))))∧
 (¬n7<(↑k16:Int)→
 InI i64 (n6+1)∧
 (Hb w13 k18 #[slice a6 k14 k15,slice a7 k16 k17] 81∧
 Hb w13 k13 #[slice a4 k9 k10,slice a5 k11 k12] 189∧
 Hb w13 k8 #[slice a1 k2 k3,slice a2 k4 k5,slice a3 k6 k7] 58∧
 Hb w13 k1 #[string tok,int i64 stp,string arn,slice ca cn cc] 48∧
 Hb w13 s #[pointer (some (Addr.mk l 0 none)),int i64 id,slice ra rn rc,map mo,slice qa qn qc,int i64 us] 116→
 P3 [int i64 (n6+1)] w13∧
 P4 [int i64 (n6+1)] w13<P4 [int i64 n6] w9)))))∧
 (¬(↑k16:Int)≠(0:Int)→
 ∀w16,KpL [] w9 w16→
 Hb w16 k18 #[slice a6 k14 k15,slice a7 k16 k17] 81∧
 Hb w16 k13 #[slice a4 k9 k10,slice a5 k11 k12] 189∧
 Hb w16 k8 #[slice a1 k2 k3,slice a2 k4 k5,slice a3 k6 k7] 58∧
 Hb w16 k1 #[string tok,int i64 stp,string arn,slice ca cn cc] 48∧
 Hb w16 s #[pointer (some (Addr.mk l 0 none)),int i64 id,slice ra rn rc,map mo,slice qa qn qc,int i64 us] 116→
 CallW Tryz.prog 105 (#[agg #[slice a4 k9 k10,slice a5 k11 k12],slice a6 k14 k15]) w16 fun e6 w17 =>
 ∃b4,e6=returned (Value.bool b4)∧
 KpL [] w16 w17∧
 ((!b4)=true→
 Hb w17 k18 #[slice a6 k14 k15,slice a7 k16 k17] 81∧
 Hb w17 k13 #[slice a4 k9 k10,slice a5 k11 k12] 189∧
 Hb w17 k8 #[slice a1 k2 k3,slice a2 k4 k5,slice a3 k6 k7] 58∧
 Hb w17 k1 #[string tok,int i64 stp,string arn,slice ca cn cc] 48∧
 Hb w17 s #[pointer (some (Addr.mk l 0 none)),int i64 id,slice ra rn rc,map mo,slice qa qn qc,int i64 us] 116→
 R (returned (int i64 3)) w17)∧
 ((!b4)=false→
 ∃(P7:List Value→World→Prop) (P8:List Value→World→Nat),(Hb w17 k18 #[slice a6 k14 k15,slice a7 k16 k17] 81∧
 Hb w17 k13 #[slice a4 k9 k10,slice a5 k11 k12] 189∧
 Hb w17 k8 #[slice a1 k2 k3,slice a2 k4 k5,slice a3 k6 k7] 58∧
 Hb w17 k1 #[string tok,int i64 stp,string arn,slice ca cn cc] 48∧
 Hb w17 s #[pointer (some (Addr.mk l 0 none)),int i64 id,slice ra rn rc,map mo,slice qa qn qc,int i64 us] 116→
 P7 [int i64 0] w17)∧
 ∀n12 w18,P7 [int i64 n12] w18→
 (n12<(↑k16:Int)→
 ∃d7,a7=some d7∧
 0≤n12∧
 n12<(↑k16:Int)∧
 (Hb w18 k18 #[slice a6 k14 k15,slice a7 k16 k17] 81∧
 Hb w18 k13 #[slice a4 k9 k10,slice a5 k11 k12] 189∧
 Hb w18 k8 #[slice a1 k2 k3,slice a2 k4 k5,slice a3 k6 k7] 58∧
 Hb w18 k1 #[string tok,int i64 stp,string arn,slice ca cn cc] 48∧
 Hb w18 s #[pointer (some (Addr.mk l 0 none)),int i64 id,slice ra rn rc,map mo,slice qa qn qc,int i64 us] 116→
 ∃n13 n14 n15 s2,LdA w18 (d7.add (n12.toNat*4)) [int i64 n13,int i64 n14,int i64 n15,string s2]∧
 ∀k20,w18.heap.size≤k20→
 ∃d8,a2=some d8∧
 0≤n12∧
 n12<(↑k4:Int)∧
 ∃n16,LdA w18 ((d8.add (n12.toNat*2)).add 1) [int i64 n16]∧
 ∀w19,KpL [] w18 w19→
 Hb w19 k20 #[int i64 n13,int i64 n14,int i64 n15,string s2] 161∧
 Hb w19 k18 #[slice a6 k14 k15,slice a7 k16 k17] 81∧
 Hb w19 k13 #[slice a4 k9 k10,slice a5 k11 k12] 189∧
 Hb w19 k8 #[slice a1 k2 k3,slice a2 k4 k5,slice a3 k6 k7] 58∧
 Hb w19 k1 #[string tok,int i64 stp,string arn,slice ca cn cc] 48∧
 Hb w19 s #[pointer (some (Addr.mk l 0 none)),int i64 id,slice ra rn rc,map mo,slice qa qn qc,int i64 us] 116→
 CallW Tryz.prog 106 (#[agg #[int i64 n13,int i64 n14,int i64 n15,string s2],int i64 n16]) w19 fun e7 w20 =>
 ∃b5,e7=returned (Value.bool b5)∧
 KpL [] w19 w20∧
 ((!b5)=true→
 Hb w20 k20 #[int i64 n13,int i64 n14,int i64 n15,string s2] 161∧
 Hb w20 k18 #[slice a6 k14 k15,slice a7 k16 k17] 81∧
 Hb w20 k13 #[slice a4 k9 k10,slice a5 k11 k12] 189∧
 Hb w20 k8 #[slice a1 k2 k3,slice a2 k4 k5,slice a3 k6 k7] 58∧
 Hb w20 k1 #[string tok,int i64 stp,string arn,slice ca cn cc] 48∧
 Hb w20 s #[pointer (some (Addr.mk l 0 none)),int i64 id,slice ra rn rc,map mo,slice qa qn qc,int i64 us] 116→
 R (returned (int i64 12)) w20)∧
 ((!b5)=false→
 InI i64 (n12+1)∧
 (Hb w20 k20 #[int i64 n13,int i64 n14,int i64 n15,string s2] 161∧
 Hb w20 k18 #[slice a6 k14 k15,slice a7 k16 k17] 81∧
 Hb w20 k13 #[slice a4 k9 k10,slice a5 k11 k12] 189∧
 Hb w20 k8 #[slice a1 k2 k3,slice a2 k4 k5,slice a3 k6 k7] 58∧
 Hb w20 k1 #[string tok,int i64 stp,string arn,slice ca cn cc] 48∧
 Hb w20 s #[pointer (some (Addr.mk l 0 none)),int i64 id,slice ra rn rc,map mo,slice qa qn qc,int i64 us] 116→
 P7 [int i64 (n12+1)] w20∧
 P8 [int i64 (n12+1)] w20<P8 [int i64 n12] w18))))∧
 (¬n12<(↑k16:Int)→
 InI i64 (n6+1)∧
 (Hb w18 k18 #[slice a6 k14 k15,slice a7 k16 k17] 81∧
 Hb w18 k13 #[slice a4 k9 k10,slice a5 k11 k12] 189∧
 Hb w18 k8 #[slice a1 k2 k3,slice a2 k4 k5,slice a3 k6 k7] 58∧
 Hb w18 k1 #[string tok,int i64 stp,string arn,slice ca cn cc] 48∧
 Hb w18 s #[pointer (some (Addr.mk l 0 none)),int i64 id,slice ra rn rc,map mo,slice qa qn qc,int i64 us] 116→
 P3 [int i64 (n6+1)] w18∧
 P4 [int i64 (n6+1)] w18<P4 [int i64 n6] w9)))))∧
 ((↑k14:Int)≠(↑k2:Int)→
 ∀w21,KpL [] w9 w21→
 Hb w21 k18 #[slice a6 k14 k15,slice a7 k16 k17] 81∧
 Hb w21 k13 #[slice a4 k9 k10,slice a5 k11 k12] 189∧
 Hb w21 k8 #[slice a1 k2 k3,slice a2 k4 k5,slice a3 k6 k7] 58∧
 Hb w21 k1 #[string tok,int i64 stp,string arn,slice ca cn cc] 48∧
 Hb w21 s #[pointer (some (Addr.mk l 0 none)),int i64 id,slice ra rn rc,map mo,slice qa qn qc,int i64 us] 116→
 R (returned (int i64 13)) w21)))∧
 (¬n6<(↑cn:Int)→
 Hb w9 k13 #[slice a4 k9 k10,slice a5 k11 k12] 189∧
 Hb w9 k8 #[slice a1 k2 k3,slice a2 k4 k5,slice a3 k6 k7] 58∧
 Hb w9 k1 #[string tok,int i64 stp,string arn,slice ca cn cc] 48∧
 Hb w9 s #[pointer (some (Addr.mk l 0 none)),int i64 id,slice ra rn rc,map mo,slice qa qn qc,int i64 us] 116→
 Ev Tryz.prog (Instr.makeMap 194 none) w9 fun y1 w22 =>
 ∃m1,y1=map m1∧
 ∃l2,KpL l2 w9 w22∧
 (NotIn k13 l2∧
 NotIn k8 l2∧
 NotIn k1 l2∧
 NotIn s l2)∧
 ∃(P9:List Value→World→Prop) (P10:List Value→World→Nat),(Hb w22 k13 #[slice a4 k9 k10,slice a5 k11 k12] 189∧
 Hb w22 k8 #[slice a1 k2 k3,slice a2 k4 k5,slice a3 k6 k7] 58∧
 Hb w22 k1 #[string tok,int i64 stp,string arn,slice ca cn cc] 48∧
 Hb w22 s #[pointer (some (Addr.mk l 0 none)),int i64 id,slice ra rn rc,map mo,slice qa qn qc,int i64 us] 116→
 P9 [int i64 0] w22)∧
 ∀n17 w23,P9 [int i64 n17] w23→
 (n17<(↑cn:Int)→
 ∃d9,ca=some d9∧
 0≤n17∧
 n17<(↑cn:Int)∧
 (Hb w23 k13 #[slice a4 k9 k10,slice a5 k11 k12] 189∧
 Hb w23 k8 #[slice a1 k2 k3,slice a2 k4 k5,slice a3 k6 k7] 58∧
 Hb w23 k1 #[string tok,int i64 stp,string arn,slice ca cn cc] 48∧
 Hb w23 s #[pointer (some (Addr.mk l 0 none)),int i64 id,slice ra rn rc,map mo,slice qa qn qc,int i64 us] 116→
 ∃a8 k21 k22 a9 k23 k24,LdA w23 (d9.add (n17.toNat*2)) [slice a8 k21 k22,slice a9 k23 k24]∧
 ∀k25,w23.heap.size≤k25→
 ∀w24,KpL [] w23 w24→
 Hb w24 k25 #[slice a8 k21 k22,slice a9 k23 k24] 81∧
 Hb w24 k13 #[slice a4 k9 k10,slice a5 k11 k12] 189∧
 Hb w24 k8 #[slice a1 k2 k3,slice a2 k4 k5,slice a3 k6 k7] 58∧
 Hb w24 k1 #[string tok,int i64 stp,string arn,slice ca cn cc] 48∧
 Hb w24 s #[pointer (some (Addr.mk l 0 none)),int i64 id,slice ra rn rc,map mo,slice qa qn qc,int i64 us] 116→
 CallW Tryz.prog 78 #[int i64 n1,slice a8 k21 k22] w24 fun e8 w25 =>
 ∃n18 n19 n20 n21 n22,e8=returned (agg #[int i64 n18,int i64 n19,int i64 n20,int i64 n21,int i64 n22])∧
 KpL [] w24 w25∧
 ∀k26,w25.heap.size≤k26→
 ∀w26,KpL [] w25 w26→
 Hb w26 k26 #[int i64 n18,int i64 n19,int i64 n20,int i64 n21,int i64 n22] 143∧
 Hb w26 k25 #[slice a8 k21 k22,slice a9 k23 k24] 81∧
 Hb w26 k13 #[slice a4 k9 k10,slice a5 k11 k12] 189∧
 Hb w26 k8 #[slice a1 k2 k3,slice a2 k4 k5,slice a3 k6 k7] 58∧
 Hb w26 k1 #[string tok,int i64 stp,string arn,slice ca cn cc] 48∧
 Hb w26 s #[pointer (some (Addr.mk l 0 none)),int i64 id,slice ra rn rc,map mo,slice qa qn qc,int i64 us] 116→
 Ev Tryz.prog (Instr.lookup 194 (map m1) (agg #[int i64 n18,int i64 n19,int i64 n20,int i64 n21,int i64 n22]) false) w26 fun y2 w27 =>
 ∃b6,y2=Value.bool b6∧
 ∃l3,KpL l3 w26 w27∧
 (NotIn k26 l3∧
 NotIn k25 l3∧
 NotIn k13 l3∧
 NotIn k8 l3∧
 NotIn k1 l3∧
 NotIn s l3)∧
 (b6=true→
 Hb w27 k26 #[int i64 n18,int i64 n19,int i64 n20,int i64 n21,int i64 n22] 143∧
 Hb w27 k25 #[slice a8 k21 k22,slice a9 k23 k24] 81∧
 Hb w27 k13 #[slice a4 k9 k10,slice a5 k11 k12] 189∧
 Hb w27 k8 #[slice a1 k2 k3,slice a2 k4 k5,slice a3 k6 k7] 58∧
 Hb w27 k1 #[string tok,int i64 stp,string arn,slice ca cn cc] 48∧
 Hb w27 s #[pointer (some (Addr.mk l 0 none)),int i64 id,slice ra rn rc,map mo,slice qa qn qc,int i64 us] 116→
 R (returned (int i64 5)) w27)∧
 (b6=false→
 Hb w27 k26 #[int i64 n18,int i64 n19,int i64 n20,int i64 n21,int i64 n22] 143∧
 Hb w27 k25 #[slice a8 k21 k22,slice a9 k23 k24] 81∧
 Hb w27 k13 #[slice a4 k9 k10,slice a5 k11 k12] 189∧
 Hb w27 k8 #[slice a1 k2 k3,slice a2 k4 k5,slice a3 k6 k7] 58∧
 Hb w27 k1 #[string tok,int i64 stp,string arn,slice ca cn cc] 48∧
 Hb w27 s #[pointer (some (Addr.mk l 0 none)),int i64 id,slice ra rn rc,map mo,slice qa qn qc,int i64 us] 116→
 Ev Tryz.prog (do
 Instr.mapUpdate 194 (map m1) (agg #[int i64 n18,int i64 n19,int i64 n20,int i64 n21,int i64 n22]) (Value.bool true)
 pure undef) w27 fun y3 w28 =>
 y3=tuple #[]∧
 ∃l4,KpL l4 w27 w28∧
 (NotIn k26 l4∧
 NotIn k25 l4∧
 NotIn k13 l4∧
 NotIn k8 l4∧
 NotIn k1 l4∧
 NotIn s l4)∧
 InI i64 (n17+1)∧
 (Hb w28 k26 #[int i64 n18,int i64 n19,int i64 n20,int i64 n21,int i64 n22] 143∧
 Hb w28 k25 #[slice a8 k21 k22,slice a9 k23 k24] 81∧
 Hb w28 k13 #[slice a4 k9 k10,slice a5 k11 k12] 189∧
 Hb w28 k8 #[slice a1 k2 k3,slice a2 k4 k5,slice a3 k6 k7] 58∧
 Hb w28 k1 #[string tok,int i64 stp,string arn,slice ca cn cc] 48∧
 Hb w28 s #[pointer (some (Addr.mk l 0 none)),int i64 id,slice ra rn rc,map mo,slice qa qn qc,int i64 us] 116→
 P9 [int i64 (n17+1)] w28∧
 P10 [int i64 (n17+1)] w28<P10 [int i64 n17] w23))))∧
 (¬n17<(↑cn:Int)→
 Hb w23 k13 #[slice a4 k9 k10,slice a5 k11 k12] 189∧
 Hb w23 k8 #[slice a1 k2 k3,slice a2 k4 k5,slice a3 k6 k7] 58∧
 Hb w23 k1 #[string tok,int i64 stp,string arn,slice ca cn cc] 48∧
 Hb w23 s #[pointer (some (Addr.mk l 0 none)),int i64 id,slice ra rn rc,map mo,slice qa qn qc,int i64 us] 116→
 R (returned (int i64 0)) w23))))))∧
 ((↑cn:Int)<(1:Int)→
 Hb w3 k1 #[string tok,int i64 stp,string arn,slice ca cn cc] 48∧
 Hb w3 s #[pointer (some (Addr.mk l 0 none)),int i64 id,slice ra rn rc,map mo,slice qa qn qc,int i64 us] 116→
 R (returned (int i64 9)) w3))))∧
 (stp<0→
 Hb w3 k1 #[string tok,int i64 stp,string arn,slice ca cn cc] 48∧
 Hb w3 s #[pointer (some (Addr.mk l 0 none)),int i64 id,slice ra rn rc,map mo,slice qa qn qc,int i64 us] 116→
 R (returned (int i64 3)) w3)))):Calls Tryz.prog 46 #[pointer (some (Addr.mk s 0 none)),agg #[string tok,int i64 stp,string arn,slice ca cn cc]] w R :=
 fncK (an:={ loops:=[⟨33,[139],[4,17,18,140,141,142,143,144,145,146,147,148,149,150,151,152],[]⟩,⟨25,[119],[4,13,14,120,121,122,123,124,125,126,127,128,129,130,131,132,133],[]⟩,⟨18,[83],[4,12,13,14,84,85,86,87,88,89,90,91,92,93,94,95,96,97,98,99,100,101,102,103,104,105,106,107,108,109,110,111,112,113,114,115,116,117,118,119,120,121,122,123,124,125,126,127,128,129,130,131,132,133,134],[]⟩,⟨13,[68],[9,10,69,70,71,72,73,74,75,76,77,78,79],[]⟩],all:=true }) (args:=[.a (.c (.loc 0 0)),.a (.agg [.v (.string tok),.v (.int .i64 stp),.v (.string arn),.v (.slice ca cn cc)])]) (rho:=[s]) (hp:=[(0,116,[.v (.pointer (some ⟨l,0,none⟩)),.v (.int .i64 id),.v (.slice ra rn rc),.v (.map mo),.v (.slice qa qn qc),.v (.int .i64 us)])]) Tryz_ok Tryz.func46 (by kernel_rfl) rfl rfl hk (by simp) (by simpa using block_lt hk) rfl (by simp) h
theorem sPut_vc{s:Nat}{tok:ByteArray}{stp:Int}{arn:ByteArray}{ca:Option Addr}{cn cc:Nat}{w:World}{R:Ending→World→Prop}
 (h :
 ∀k1,w.heap.size≤k1→
 ∀w1,KpL [] w w1→
 Hb w1 k1 #[string tok,int i64 stp,string arn,slice ca cn cc] 48→
 CallW Tryz.prog 45 #[pointer (some (Addr.mk s 0 none))] w1 fun e1 w2 =>
 ∃n1,e1=returned (int i64 n1)∧
 KpL [] w1 w2∧
 (n1≠0→
 Hb w2 k1 #[string tok,int i64 stp,string arn,slice ca cn cc] 48→
 R (returned (tuple #[Value.bool false,int i64 n1])) w2)∧
 (¬n1≠0→
 Hb w2 k1 #[string tok,int i64 stp,string arn,slice ca cn cc] 48→
 CallW Tryz.prog 46 (#[pointer (some (Addr.mk s 0 none)),agg #[string tok,int i64 stp,string arn,slice ca cn cc]]) w2 fun e2 w3 =>
 ∃n2,e2=returned (int i64 n2)∧
 KpL [] w2 w3∧
 (n2≠0→
 Hb w3 k1 #[string tok,int i64 stp,string arn,slice ca cn cc] 48→
 R (returned (tuple #[Value.bool false,int i64 n2])) w3)∧
 (¬n2≠0→
 Hb w3 k1 #[string tok,int i64 stp,string arn,slice ca cn cc] 48→
 ∃a1 k2 k3,LdA w3 ((Addr.mk s 0 none).add 4) [slice a1 k2 k3]∧
 (Hb w3 k1 #[string tok,int i64 stp,string arn,slice ca cn cc] 48→
 CallW Tryz.prog 47 (#[slice a1 k2 k3,func (Fn.func 48) #[] #[pointer (some (Addr.mk k1 0 none))]]) w3 fun e3 w4 =>
 ∃b1,e3=returned (Value.bool b1)∧
 KpL [] w3 w4∧
 (b1=true→
 Hb w4 k1 #[string tok,int i64 stp,string arn,slice ca cn cc] 48→
 R (returned (tuple #[Value.bool false,int i64 0])) w4)∧
 (b1=false→
 ∃n3,LdA w4 ((Addr.mk s 0 none).add 5) [int i64 n3]∧
 ∃a2,LdA w4 ((Addr.mk s 0 none).add 0) [pointer a2]∧
 ∃d1,a2=some d1∧
 ∃a3,LdA w4 (d1.add 0) [pointer a3]∧
 ∀w5,KpL [] w4 w5→
 Hb w5 k1 #[string tok,int i64 stp,string arn,slice ca cn cc] 48→
 CallW Tryz.prog 49 (#[agg #[string tok,int i64 stp,string arn,slice ca cn cc]]) w5 fun e4 w6 =>
 ∃n4,e4=returned (int i64 n4)∧
 KpL [] w5 w6∧
 InI i64 (n3+n4)∧
 (Hb w6 k1 #[string tok,int i64 stp,string arn,slice ca cn cc] 48→
 CallW Tryz.prog 50 #[pointer a3] w6 fun e5 w7 =>
 ∃n5,e5=returned (int i64 n5)∧
 KpL [] w6 w7∧
 (n5<n3+n4→
 Hb w7 k1 #[string tok,int i64 stp,string arn,slice ca cn cc] 48→
 R (returned (tuple #[Value.bool false,int i64 18])) w7)∧
 (¬n5<n3+n4→
 ∃a4,LdA w7 ((Addr.mk s 0 none).add 0) [pointer a4]∧
 ∀w8,KpL [] w7 w8→
 Hb w8 k1 #[string tok,int i64 stp,string arn,slice ca cn cc] 48→
 CallW Tryz.prog 53 (#[pointer (some (Addr.mk s 0 none)),agg #[string tok,int i64 stp,string arn,slice ca cn cc]]) w8 fun e6 w9 =>
 ∃a5 k4 k5,e6=returned (slice a5 k4 k5)∧
 KpL [] w8 w9∧
 (Hb w9 k1 #[string tok,int i64 stp,string arn,slice ca cn cc] 48→
 CallW Tryz.prog 52 #[pointer a4,int u8 2,slice a5 k4 k5] w9 fun e7 w10 =>
 ∃n6,e7=returned (int i64 n6)∧
 ∃l1,KpL l1 w9 w10∧
 NotIn k1 l1∧
 (Hb w10 k1 #[string tok,int i64 stp,string arn,slice ca cn cc] 48→
 CallW Tryz.prog 51 #[pointer (some (Addr.mk s 0 none)),int i64 n6] w10 fun e8 w11 =>
 ∃n7,e8=returned (int i64 n7)∧
 ∃l2,KpL l2 w10 w11∧
 NotIn k1 l2∧
 (n7≠0→
 Hb w11 k1 #[string tok,int i64 stp,string arn,slice ca cn cc] 48→
 R (returned (tuple #[Value.bool false,int i64 n7])) w11)∧
 (¬n7≠0→
 Hb w11 k1 #[string tok,int i64 stp,string arn,slice ca cn cc] 48→
 CallW Tryz.prog 54 (#[pointer (some (Addr.mk s 0 none)),agg #[string tok,int i64 stp,string arn,slice ca cn cc]]) w11 fun e9 w12 =>
 e9=returned (tuple #[])∧
 ∃l3,KpL l3 w11 w12∧
 NotIn k1 l3∧
 (Hb w12 k1 #[string tok,int i64 stp,string arn,slice ca cn cc] 48→
 R (returned (tuple #[Value.bool true,int i64 0])) w12))))))))))):Calls Tryz.prog 13 #[pointer (some (Addr.mk s 0 none)),agg #[string tok,int i64 stp,string arn,slice ca cn cc]] w R :=
 fnc0 (an:={ muts:=[52,54,51],all:=true }) (args:=[.a (.c (.v (.pointer (some ⟨s,0,none⟩)))),.a (.agg [.v (.string tok),.v (.int .i64 stp),.v (.string arn),.v (.slice ca cn cc)])]) Tryz_ok Tryz.func13 (by kernel_rfl) rfl rfl h
end Go.Vc
namespace Go.Vc
open Go Go.Proofs
def putP(bs:List Seen)(n k:Int)(pl:List (Pl×Sta))(c:Cell):List (Pl×Sta) :=
 if newerB bs n (((getM pl (plOf k c.at_)).map (·.batch)).getD 0)=true then putM pl (plOf k c.at_) ⟨n,c.vals⟩ else pl
def putPs(bs:List Seen)(n k:Int)(pl:List (Pl×Sta))(l:List Cell):List (Pl×Sta):=l.foldl (putP bs n k) pl
def Bt.seen(b:Bt):Seen:=⟨b.token,b.stamp⟩
def Bt.weight(b:Bt):Int:=2+3*b.changes.length
def Sto.commit(st:Sto)(b:Bt):Sto :=
 { st with batches:=st.batches++[b.seen],places:=putPs (st.batches++[b.seen]) (st.batches.length+1:Nat) (findA_ st.arrays b.array) st.places b.changes,use:=st.use+b.weight }
theorem putM_mem{κ β:Type}[DecidableEq κ]{l:List (κ×β)}{k:κ}{v:β}{p:κ×β}(h:p∈putM l k v):p=(k,v)∨p∈l:=by
 unfold putM at h
 split at h
 ·obtain⟨q,hq,rfl⟩:=List.mem_map.1 h
  split
  ·exact .inl rfl
  ·exact .inr hq
 ·rcases List.mem_append.1 h with h|h
  ·exact .inr h
  ·simp at h;exact .inl h
theorem putP_mem{bs:List Seen}{n k:Int}{pl:List (Pl×Sta)}{c:Cell}{p:Pl×Sta}(h:p∈putP bs n k pl c):p=(plOf k c.at_,⟨n,c.vals⟩)∨p∈pl:=by
 unfold putP at h
 split at h
 ·exact putM_mem h
 ·exact .inr h
theorem putPs_mem{bs:List Seen}{n k:Int}:∀{l:List Cell} {pl:List (Pl×Sta)} {p:Pl×Sta},p∈putPs bs n k pl l→(∃c∈l,p=(plOf k c.at_,⟨n,c.vals⟩))∨p∈pl
 |[],_,_,h=>.inr h
 |c::r,pl,p,h=>by
  rcases putPs_mem (l:=r) (pl:=putP bs n k pl c) h with ⟨c',hc',rfl⟩|h
  ·exact .inl ⟨c',by simp[hc'],rfl⟩
  ·rcases putP_mem h with rfl|h
   ·exact .inl ⟨c,by simp,rfl⟩
   ·exact .inr h
theorem plOf_ok{k:Int}{at_:List Int}(hk:InI .i64 k)(h:∀x∈at_,InI .i64 x):(plOf k at_).ok:=by
 have z:InI .i64 0:=ini_i64.2 (by omega)
 have g:∀i,InI .i64 (at_.getD i 0):=by
  intro i
  rw[List.getD_eq_getElem?_getD]
  cases hi:at_[i]? with
  |none=>exact z
  |some x=>exact h x (List.mem_of_getElem? hi)
 exact⟨hk,g 0,g 1,g 2,g 3⟩
theorem getM_batch{pl:List (Pl×Sta)}{p:Pl}{P:Int→Prop}(h0:P 0)(h:∀q∈pl,P q.2.batch):P (((getM pl p).map (·.batch)).getD 0):=by
 cases hg:getM pl p with
 |none=>exact h0
 |some x =>
  unfold getM at hg
  obtain⟨q,hq,rfl⟩:=Option.map_eq_some_iff.1 hg
  exact h q (List.mem_of_find?_eq_some hq)
set_option maxHeartbeats 2000000 in
theorem sCommit_ok{M Mc F:List Nat}{w:World}{s l d:Nat}{num nxt:Int}{st:Sto}{b:Bt}{ca:Option Addr}{cn cc:Nat}(h:StoreAt M w s l d num nxt st F)(hc:R (tSl tCell) (F++Mc) w b.changes [.slice ca cn cc])
 (htok:b.token.size≤1000)(hst:InI .i64 b.stamp)(hcl:b.changes.length≤1000)(hch:∀c∈b.changes,c.at_.length≤4∧c.vals.length≤1000)(hbn:st.batches.length≤900000)(hbt:∀p∈st.places,0≤p.2.batch∧p.2.batch≤st.batches.length)
 (hk:InI .i64 (findA_ st.arrays b.array))(hu:0≤st.use∧st.use≤1000000):
 Calls Tryz.prog 54 #[.pointer (some ⟨s,0,none⟩),.agg #[.string b.token,.int .i64 b.stamp,.string b.array,.slice ca cn cc]] w fun e w'=>e=.returned (.tuple #[])∧∃F',StoreAt M w' s l d num nxt (st.commit b) F'∧Own F w F' w':=by
 have hmx:maxSl=140737488355328:=rfl
 have hFl:=h.own_lt
 obtain⟨m,ra,rn,rc,qa,qn,qc,h,hl,rfl⟩:=h
 obtain⟨rfl,_,_⟩:=hc.sl_len
 have hq:=h.bat.len
 refine sCommit_vc h.hs fun k1 hk1 k2 hk2 w1 hw1 hkn1=>?_
 have hsl:=block_lt h.hs
 have hll:=block_lt hl
 have hml:=h.pls.lt
 have hmn:=h.pls.mM
 have hb1:=h.bat.kp0 hw1
 have hseen:R tSeen (blkL qa++(s::l::m::M)) w1 b.seen [.string b.token,.int .i64 b.stamp]:=⟨rfl,by show b.token.size≤maxSl;omega,hst⟩
 refine ev_append1 apSeen hb1 hkn1.1 hseen (by omega) fun qa' qc' w2 hQ=>⟨_,_,_,rfl,_,hQ.kp,⟨⟨fun hm=>by have:=(h.bat.blk_lt _ hm).1;omega⟩,⟨fun hm=>by have:=(h.bat.blk_lt _ hm).1;omega⟩,hb1.out (by simp)⟩,fun w3 hw3 hkn3=>?_⟩
 generalize hbs:st.batches++[b.seen]=bs at *
 have hlQ:=hQ.acc.len
 have hbsl:bs.length=st.batches.length+1:=by rw[←hbs];simp
 have hO:Own (s::l::m::blkL qa) w (s::l::m::blkL qa') w3:=by
  refine⟨((hw1.mono (by simp)).trans (hQ.kp.mono (by simp_all))).trans (hw3.mono (by simp)),fun x hx=>?_⟩
  simp only[List.mem_cons]at hx ⊢
  rcases hx with rfl|rfl|rfl|hx
  ·simp
  ·simp
  ·simp
  ·rcases hQ.own x hx with hx|hx
   ·simp[hx]
   ·exact .inr (Nat.le_trans hw1.size hx)
 have hKq:KpL (s::blkL qa) w w3:=((hw1.mono (by simp)).trans (hQ.kp.mono (by simp_all))).trans (hw3.mono (by simp))
 have hqnew:∀x∈blkL qa',x∈blkL qa∨w.heap.size≤x:=fun x hx=>(hQ.own x hx).imp id (fun hge=>Nat.le_trans hw1.size hge)
 have hsub:∀x∈s::blkL qa,x∈s::l::m::(blkL qa++M):=by intro x hx;simp at hx;rcases hx with rfl|hx<;>simp[*]
 have hlq:l∉s::blkL qa:=by
  intro hm
  rcases List.mem_cons.1 hm with e|hm
  ·exact h.sl e.symm
  ·exact(h.bat.blk_lt l hm).2 (by simp)
 have h3:StoIn M w3 s l { st with batches:=bs } m ra rn rc qa' (qn+1) qc':=by
  refine⟨hkn3.2.2,h.arr.step hKq hsub ?_,h.pls.step hKq (by intro x hx;simp at hx;rcases hx with rfl|hx<;>simp[*]) ?_,hQ.acc.kp hw3 (by simp),h.sl,h.sM,h.lM,h.idI,h.useI,h.keys⟩
  ·intro x hx
   simp only[List.mem_cons,List.mem_append]at hx ⊢
   rcases hx with hx|hx|hx|hx|hx
   ·simp[hx]
   ·simp[hx]
   ·simp[hx]
   ·exact(hqnew x hx).imp (fun h=>by simp[h]) id
   ·simp[hx]
  ·intro x hx
   simp only[List.mem_cons,List.mem_append]at hx ⊢
   rcases hx with hx|hx|hx|hx
   ·simp[hx]
   ·simp[hx]
   ·exact(hqnew x hx).imp (fun h=>by simp[h]) id
   ·simp[hx]
 have hl3:LogAt w3 l d num nxt:=hl.keep hKq hlq
 have hc3:R (tSl tCell) (s::l::m::blkL qa'++Mc) w3 b.changes [.slice ca b.changes.length cc]:=hO.data hc
 have hqn:qn+1=bs.length:=by rw[h3.bat.len]
 refine⟨(find_ok ⟨m,ra,rn,rc,qa',qn+1,qc',h3,hl3,rfl⟩ b.array).mono ?_⟩
 rintro e w4 ⟨rfl,hw4⟩
 have hfind:findA_ ({ st with batches:=bs }:Sto).arrays b.array=findA_ st.arrays b.array:=rfl
 rw[hfind]
 generalize hkk:findA_ st.arrays b.array=kk at *
 have hMlt:∀{w':World},KpL [] w3 w'→True:=fun _=>trivial
 refine⟨_,rfl,hw4,fun vs w'=>∃(i:Nat) (pl:List (Pl×Sta)),vs=[.int .i64 (i:Int)]∧i≤b.changes.length∧pl=putPs bs (bs.length:Nat) kk st.places (b.changes.take i)∧KpL [m] w3 w'∧k1<w'.heap.size∧k2<w'.heap.size∧StoIn M w' s l { st with batches:=bs,places:=pl } m ra rn rc qa' (qn+1) qc',
  fun vs _=>match vs with|[.int _ i]=>b.changes.length - i.toNat|_=>0,fun hkn4=>⟨0,st.places,rfl,by omega,rfl,hw4.mono (by simp),block_lt hkn4.2.1,block_lt hkn4.1,h3.step hw4 (by simp) (fun x hx=>⟨.inl hx,Nat.lt_of_lt_of_le (h3.mlt x hx) hw4.size⟩) (block_lt hl3)⟩,?_⟩
 rintro i' w5 ⟨i,pl,hv,hi,hpl,hK5,hk1l,hk2l,h5⟩
 simp only[List.cons.injEq,Value.int.injEq,true_and,and_true]at hv
 subst hv
 have hl5:LogAt w5 l d num nxt:=hl3.keep hK5 (by simp;rintro rfl;exact hmn (by simp))
 have hplm:∀q∈pl,0≤q.2.batch∧q.2.batch≤bs.length:=by
  intro q hq'
  rw[hpl]at hq'
  rcases putPs_mem hq' with ⟨c,_,rfl⟩|hq'
  ·simp
  ·have:=hbt q hq';omega
 constructor
 ·intro hlt
  have gi:i<b.changes.length:=by omega
  have hc5:R (tSl tCell) (s::l::m::(blkL qa'++Mc)) w5 b.changes [.slice ca b.changes.length cc]:=(hc3.kp hK5 (by simp))
  obtain⟨ad,cs,rfl,hv1,hld1,_,_⟩:=hc5.sl_get gi
  have hch':=hch b.changes[i] (List.getElem_mem gi)
  obtain⟨a6,p6,q6,a7,p7,q7,rfl,hx1,hx2⟩:=hv1.cell
  have hstep:putPs bs (bs.length:Nat) kk st.places (b.changes.take (i+1))=putP bs (bs.length:Nat) kk pl b.changes[i]:=by
   rw[←List.take_append_getElem gi]
   unfold putPs
   rw[List.foldl_append,hpl]
   rfl
  generalize b.changes[i]=c at *
  have dec:b.changes.length - ((i:Int)+1).toNat<b.changes.length - (i:Int).toNat:=by omega
  refine⟨ad,rfl,by omega,hlt,fun hkn5=>⟨_,_,_,_,_,_,hld1,fun k9 hk9 w6 hw6 hkn6=>⟨(key_ok (x:=kk) (hx1.kp0 hw6) hch'.1).mono ?_⟩⟩⟩
  rintro e w7 ⟨rfl,hw7⟩
  have hpok:(plOf kk c.at_).ok:=plOf_ok hk hx1.ints
  generalize hpp:plOf kk c.at_=p at *
  refine⟨p.a,p.p0,p.p1,p.p2,p.p3,rfl,hw7,fun k10 hk10 w8 hw8 hkn8=>?_⟩
  have hk58:=(hw6.trans hw7).trans hw8
  have s58:=hk58.size
  have s57:=(hw6.trans hw7).size
  have h8:=h5.step hk58 (by simp) (fun x hx=>⟨.inl hx,Nat.lt_of_lt_of_le (h5.mlt x hx) hk58.size⟩) (block_lt hl5)
  have hl8:LogAt w8 l d num nxt:=hl5.keep hk58 (by simp)
  have cont:∀(bb:Int) (a4:Option Addr) (k11 k12:Nat),bb=((getM pl p).map (·.batch)).getD 0→InI .i64 bb→
   ∃n8,∃a4' k11' k12',Value.agg #[.int .i64 bb,.slice a4 k11 k12]=.agg #[.int .i64 n8,.slice a4' k11' k12']∧n8=bb:=fun bb a4 k11 k12 _ _=>⟨_,_,_,_,rfl,rfl⟩
  have hbb:0≤((getM pl p).map (·.batch)).getD 0∧((getM pl p).map (·.batch)).getD 0≤bs.length:=getM_batch (P:=fun x=>0≤x∧x≤bs.length) (by simp) hplm
  have after:∀(bb:Int),bb=((getM pl p).map (·.batch)).getD 0→CallW Tryz.prog 115 #[.pointer (some ⟨s,0,none⟩),.int .i64 ((qn+1:Nat):Int),.int .i64 bb] w8 (PureR (.bool (newerB bs (bs.length:Nat) bb)) w8):=by
   intro bb hb
   subst hb
   have:=newer_ok (a:=((qn+1:Nat):Int)) (b:=((getM pl p).map (·.batch)).getD 0) ⟨m,ra,rn,rc,qa',qn+1,qc',h8,hl8,rfl⟩ (by show bs.length≤_;omega) (by show 1≤_∧_≤((bs.length:Nat):Int);omega) hbb
   rw[hqn]at this ⊢
   exact⟨this⟩
  have hputP:putP bs (bs.length:Nat) kk pl c=if newerB bs (bs.length:Nat) (((getM pl p).map (·.batch)).getD 0)=true then putM pl p ⟨(bs.length:Nat),c.vals⟩ else pl:=by unfold putP;rw[hpp]
  have after':∀(bb:Int),bb=((getM pl p).map (·.batch)).getD 0→CallW Tryz.prog 115 #[.pointer (some ⟨s,0,none⟩),.int .i64 ((qn+1:Nat):Int),.int .i64 bb] w8 (PureR (.bool (newerB bs (bs.length:Nat) (((getM pl p).map (·.batch)).getD 0))) w8):=fun bb hb=>by
   have:=after bb hb
   rw[hb]at this ⊢
   exact this
  generalize hB:newerB bs (bs.length:Nat) (((getM pl p).map (·.batch)).getD 0)=B at *
  refine ev_lookup (enc:=Pl.enc) keyPl u114 z145 h8.pls p false (fun x cs hg hR=>?_) (fun hg=>?_)
  ·obtain⟨va,vn,vc,rfl,hbi,_⟩:=hR.sta
   refine⟨_,_,_,_,rfl,[],KpL.refl _ _,⟨⟨by simp⟩,⟨by simp⟩,⟨by simp⟩,⟨by simp⟩,⟨by simp⟩⟩,fun _=>⟨(after' x.batch (by rw[hg];rfl)).calls.mono ?_⟩⟩
   rintro e w10 ⟨rfl,hw10⟩
   refine⟨_,rfl,hw10,?_⟩
   refine⟨fun hbt' w11 hw11 _=>?_,fun hbf=>⟨ini_i64.2 (by omega),fun _=>⟨⟨i+1,pl,rfl,by omega,?_,hK5.trans ((hk58.trans hw10).mono (by simp)),?_,?_,h8.step hw10 (by simp) (fun x hx=>⟨.inl hx,Nat.lt_of_lt_of_le (h8.mlt x hx) hw10.size⟩) (block_lt hl8)⟩,dec⟩⟩⟩
   ·have hk811:=hw10.trans hw11
    have h11:=h8.step hk811 (by simp) (fun x hx=>⟨.inl hx,Nat.lt_of_lt_of_le (h8.mlt x hx) hk811.size⟩) (block_lt hl8)
    have hl11:=hl8.keep hk811 (by simp)
    have hmx':∀x∈m::s::l::(blkL qa'++M),x<w11.heap.size:=by
     intro x hx
     have g:=h11.own_lt hl11
     simp only[List.mem_cons,List.mem_append]at hx
     rcases hx with rfl|rfl|rfl|hx|hx
     ·exact(g x (by simp)).1
     ·exact(g x (by simp)).1
     ·exact(g x (by simp)).1
     ·exact(g x (by simp[hx])).1
     ·exact h11.mlt x hx
    refine⟨(clone77_ok (M:=m::s::l::(blkL qa'++M)) hmx' (by have:=hx2.sl_len';omega) ((hx2.kp0 hk58).kp0 hk811)).mono ?_⟩
    rintro e w12 ⟨a5,n5,c5,rfl,hV⟩
    have lV:=hV.acc.len
    have hRv:=hV.acc.done (by omega)
    have hk812:=hk811.trans hV.kpn
    have h12:=h8.step hk812 (by simp) (fun x hx=>⟨.inl hx,Nat.lt_of_lt_of_le (h8.mlt x hx) hk812.size⟩) (block_lt hl8)
    have hsta:R tSta (m::s::l::(blkL qa'++M)) w12 ⟨(bs.length:Nat),c.vals⟩ [.int .i64 ((bs.length:Nat):Int),.slice a5 n5 c5]:=R.mkSta (ini_i64.2 (by simp;omega)) hRv
    have hml':m<w5.heap.size:=h5.pls.lt
    have hmm:=h5.pls.mM
    refine⟨_,_,_,rfl,hV.kpn,fun _=>?_⟩
    rw[hqn]at h12 ⊢
    refine ev_mapUpdate (enc:=Pl.enc) (v:=⟨(bs.length:Nat),c.vals⟩) keyPl u114 h12.pls p hsta fun w13 hm13 hk13=>⟨rfl,[m],hk13,⟨⟨by simp;omega⟩,⟨by simp;omega⟩,⟨by simp;omega⟩,⟨by simp;omega⟩,⟨by simp;rintro rfl;exact hmm (by simp)⟩⟩,ini_i64.2 (by omega),fun hkn13=>⟨⟨i+1,putM pl p ⟨(bs.length:Nat),c.vals⟩,rfl,by omega,?_,(hK5.trans ((hk58.trans hk812).mono (by simp))).trans hk13,block_lt hkn13.2.2.2.1,block_lt hkn13.2.2.1,?_⟩,dec⟩⟩
    ·rw[hstep,hputP,if_pos hbt']
    ·have hne:s≠m:=by rintro rfl;exact hmm (by simp)
     have hlm:l≠m:=by rintro rfl;exact hmm (by simp)
     refine⟨(hk13.blk s (block_lt h12.hs) (by simpa using hne)).trans h12.hs,h12.arr.kp hk13 (by simp),hm13,h12.bat.kp hk13 (by simp),h.sl,h.sM,h.lM,h.idI,h.useI,fun q hq'=>?_⟩
     rcases putM_mem hq' with rfl|hq'
     ·exact hpok
     ·exact h5.keys q hq'
   ·rw[hstep,hputP,if_neg (by simp[hbf])]
   ·have:=hw10.size;omega
   ·have:=hw10.size;omega
  ·refine⟨_,_,_,_,rfl,[],KpL.refl _ _,⟨⟨by simp⟩,⟨by simp⟩,⟨by simp⟩,⟨by simp⟩,⟨by simp⟩⟩,fun _=>⟨(after' 0 (by rw[hg];rfl)).calls.mono ?_⟩⟩
   rintro e w10 ⟨rfl,hw10⟩
   refine⟨_,rfl,hw10,?_⟩
   refine⟨fun hbt' w11 hw11 _=>?_,fun hbf=>⟨ini_i64.2 (by omega),fun _=>⟨⟨i+1,pl,rfl,by omega,?_,hK5.trans ((hk58.trans hw10).mono (by simp)),?_,?_,h8.step hw10 (by simp) (fun x hx=>⟨.inl hx,Nat.lt_of_lt_of_le (h8.mlt x hx) hw10.size⟩) (block_lt hl8)⟩,dec⟩⟩⟩
   ·have hk811:=hw10.trans hw11
    have h11:=h8.step hk811 (by simp) (fun x hx=>⟨.inl hx,Nat.lt_of_lt_of_le (h8.mlt x hx) hk811.size⟩) (block_lt hl8)
    have hl11:=hl8.keep hk811 (by simp)
    have hmx':∀x∈m::s::l::(blkL qa'++M),x<w11.heap.size:=by
     intro x hx
     have g:=h11.own_lt hl11
     simp only[List.mem_cons,List.mem_append]at hx
     rcases hx with rfl|rfl|rfl|hx|hx
     ·exact(g x (by simp)).1
     ·exact(g x (by simp)).1
     ·exact(g x (by simp)).1
     ·exact(g x (by simp[hx])).1
     ·exact h11.mlt x hx
    refine⟨(clone77_ok (M:=m::s::l::(blkL qa'++M)) hmx' (by have:=hx2.sl_len';omega) ((hx2.kp0 hk58).kp0 hk811)).mono ?_⟩
    rintro e w12 ⟨a5,n5,c5,rfl,hV⟩
    have lV:=hV.acc.len
    have hRv:=hV.acc.done (by omega)
    have hk812:=hk811.trans hV.kpn
    have h12:=h8.step hk812 (by simp) (fun x hx=>⟨.inl hx,Nat.lt_of_lt_of_le (h8.mlt x hx) hk812.size⟩) (block_lt hl8)
    have hsta:R tSta (m::s::l::(blkL qa'++M)) w12 ⟨(bs.length:Nat),c.vals⟩ [.int .i64 ((bs.length:Nat):Int),.slice a5 n5 c5]:=R.mkSta (ini_i64.2 (by simp;omega)) hRv
    have hml':m<w5.heap.size:=h5.pls.lt
    have hmm:=h5.pls.mM
    refine⟨_,_,_,rfl,hV.kpn,fun _=>?_⟩
    rw[hqn]at h12 ⊢
    refine ev_mapUpdate (enc:=Pl.enc) (v:=⟨(bs.length:Nat),c.vals⟩) keyPl u114 h12.pls p hsta fun w13 hm13 hk13=>⟨rfl,[m],hk13,⟨⟨by simp;omega⟩,⟨by simp;omega⟩,⟨by simp;omega⟩,⟨by simp;omega⟩,⟨by simp;rintro rfl;exact hmm (by simp)⟩⟩,ini_i64.2 (by omega),fun hkn13=>⟨⟨i+1,putM pl p ⟨(bs.length:Nat),c.vals⟩,rfl,by omega,?_,(hK5.trans ((hk58.trans hk812).mono (by simp))).trans hk13,block_lt hkn13.2.2.2.1,block_lt hkn13.2.2.1,?_⟩,dec⟩⟩
    ·rw[hstep,hputP,if_pos hbt']
    ·have hne:s≠m:=by rintro rfl;exact hmm (by simp)
     have hlm:l≠m:=by rintro rfl;exact hmm (by simp)
     refine⟨(hk13.blk s (block_lt h12.hs) (by simpa using hne)).trans h12.hs,h12.arr.kp hk13 (by simp),hm13,h12.bat.kp hk13 (by simp),h.sl,h.sM,h.lM,h.idI,h.useI,fun q hq'=>?_⟩
     rcases putM_mem hq' with rfl|hq'
     ·exact hpok
     ·exact h5.keys q hq'
   ·rw[hstep,hputP,if_neg (by simp[hbf])]
   ·have:=hw10.size;omega
   ·have:=hw10.size;omega
 ·intro hge w14 hw14 hkn14
  have hie:i=b.changes.length:=by omega
  subst hie
  rw[List.take_length]at hpl
  refine⟨(weight_ok w14 b.token b.array b.stamp ca b.changes.length cc (by omega)).mono ?_⟩
  rintro e w15 ⟨rfl,hw15⟩
  refine⟨_,rfl,hw15,ini_i64.2 (by omega),fun w16 hw16 hkn16=>⟨rfl,s::l::m::blkL qa',⟨m,ra,rn,rc,qa',qn+1,qc',?_,?_,rfl⟩,?_⟩⟩
  ·have hk515:=hw14.trans hw15
   have h15:=h5.step hk515 (by simp) (fun x hx=>⟨.inl hx,Nat.lt_of_lt_of_le (h5.mlt x hx) hk515.size⟩) (block_lt hl5)
   have e1:st.commit b={ st with batches:=bs,places:=pl,use:=st.use+(2+3*(b.changes.length:Int)) }:=by
    unfold Sto.commit Bt.weight
    rw[hbs,hkk,hpl,hbsl]
   rw[e1]
   exact⟨hkn16.2.2,h15.arr.kp hw16 (by simp),h15.pls.step hw16 (by simp) (fun x hx=>.inl hx),h15.bat.kp hw16 (by simp),h.sl,h.sM,h.lM,h.idI,ini_i64.2 (by simp;omega),h15.keys⟩
  ·have hk515:=hw14.trans hw15
   exact(hl5.keep hk515 (by simp)).keep hw16 (by simpa using h.sl.symm)
  ·exact hO.trans ⟨((hK5.mono (by simp)).trans ((hw14.trans hw15).mono (by simp))).trans (hw16.mono (by simp)),fun x hx=>.inl hx⟩
end Go.Vc
namespace Go.Vc
open Go Go.Proofs
theorem getM_metK{κ:Type}[DecidableEq κ](met:List κ)(s:κ):getM (met.map fun s=>(s,true)) s=if s∈met then some true else none:=by
 unfold getM
 by_cases h:s∈met
 ·rw[if_pos h]
  have:(met.map fun s=>(s,true)).find? (fun p=>decide (p.1=s))=some (s,true):=by
   induction met with
   |nil=>simp at h
   |cons x r ih =>
    rw[List.map_cons,List.find?_cons]
    by_cases hx:x=s
    ·simp[hx]
    ·simp only[hx,decide_false]
     exact ih (by simpa[Ne.symm hx]using h)
  rw[this];rfl
 ·rw[if_neg h]
  have:(met.map fun s=>(s,true)).find? (fun p=>decide (p.1=s))=none:=by
   rw[List.find?_eq_none]
   intro p hp
   simp only[List.mem_map]at hp
   obtain⟨x,hx,rfl⟩:=hp
   simp only[decide_eq_true_eq]
   rintro rfl
   exact h hx
  rw[this];rfl
theorem putM_metK{κ:Type}[DecidableEq κ]{met:List κ}{s:κ}(hs:s∉met):putM (met.map fun s=>(s,true)) s true=(met++[s]).map fun s=>(s,true):=by
 unfold putM
 rw[if_neg]
 ·simp
 ·simp only[List.any_map,List.any_eq_true,not_exists]
  intro x hx
  simp at hx
  exact hs (hx.2▸hx.1)
def MetP(M:List Nat)(w:World)(m:Nat)(met:List Pl):Prop:=MapAt Pl.enc tB M w m (met.map fun s=>(s,true))
theorem u194:Tryz.prog.underlying 194=some (.map 143 4):=by kernel_rfl
theorem ev_metP{M:List Nat}{w:World}{m:Nat}{met:List Pl}(h:MetP M w m met)(s:Pl){Q:Value→World→Prop}(hq:Q (.bool (decide (s∈met))) w):
 Ev Tryz.prog (Instr.lookup 194 (.map (some m)) s.enc false) w Q:=by
 refine ev_lookup (enc:=Pl.enc) keyPl u194 z4 h s false (fun x cs hg hR=>?_) (fun hg=>?_)
 ·rw[getM_metK]at hg
  split at hg
  ·rename_i hm
   simp only[Option.some.injEq]at hg
   subst hg
   have:cs=[.bool true]:=hR
   subst this
   rw[decide_eq_true hm]at hq
   exact hq
  ·cases hg
 ·rw[getM_metK]at hg
  split at hg
  ·cases hg
  ·rename_i hm
   rw[decide_eq_false hm]at hq
   exact hq
theorem ev_meetP{M:List Nat}{w:World}{m:Nat}{met:List Pl}(h:MetP M w m met){s:Pl}(hs:s∉met){Q:Value→World→Prop}(hq:∀w',MetP M w' m (met++[s])→KpL [m] w w'→Q undef w'):
 Ev Tryz.prog (do Instr.mapUpdate 194 (.map (some m)) s.enc (.bool true);pure undef) w Q:=by
 refine ev_mapUpdate (enc:=Pl.enc) (cs:=[.bool true]) (v:=true) keyPl u194 h s rfl fun w' hm hk=>hq w' ?_ hk
 rw[putM_metK hs]at hm
 exact hm
theorem Acc.setI{k:IntKind}{M:List Nat}{w:World}{xs:List Int}{ad:Addr}{n c:Nat}(h:Acc (tI k) M w xs (some ad) n c){i:Nat}(hi:i<xs.length){x:Int}(hx:InI k x):
 (∃l,LdA w (ad.add (i*1)) l∧l.length=1)∧NotFrozen w (ad.add (i*1)) 1∧(ad.add (i*1)).block=ad.block∧Acc (tI k) M (stA w (ad.add (i*1)) [.int k x] 0) (xs.set i x) (some ad) n c∧KpL [ad.block] w (stA w (ad.add (i*1)) [.int k x] 0):=by
 obtain⟨b,arr,T,rfl,hbM,hb,hsz,hel⟩:=h.at_ ad rfl
 have hn:=h.len
 have hcap:=h.cap
 have hz:(tI k).sz=1:=rfl
 rw[hz,Nat.mul_one]at hsz
 have hb':w.heap[b]?=some (.cells arr.toList.toArray T (0,0)):=by simpa using hb
 obtain⟨s1,s2,s3,s4,s5⟩:=st1 (i:=i) (v:=.int k x) hb' (by simp;omega)
 refine⟨s1,s2,s3,⟨by simp[hn],hcap,fun y hy=>Nat.lt_of_lt_of_le (h.mlt y hy) s5.size,fun hc=>(by cases hc),fun ad' had=>?_⟩,s5⟩
 simp only[Option.some.injEq]at had
 subst had
 refine⟨b,_,T,rfl,hbM,s4,by simp[hsz,hz],fun j y hy=>⟨[.int k y],?_,fun t v hv=>?_⟩⟩
 ·rw[List.getElem?_set]at hy
  split at hy
  ·simp at hy;subst hy;exact⟨rfl,hx⟩
  ·obtain⟨cs,⟨_,hin⟩,_⟩:=hel j y hy
   exact⟨rfl,hin⟩
 ·cases t with
  |succ t=>simp at hv
  |zero =>
   simp at hv
   subst hv
   rw[hz]
   simp only[List.toList_toArray,Nat.zero_add,Nat.mul_one,Nat.add_zero]
   rw[List.getElem?_set]
   rw[List.getElem?_set]at hy
   split at hy
   ·rename_i hij
    subst hij
    rw[if_pos rfl]
    simp at hy;subst hy
    rw[if_pos (by simp;omega)]
   ·rename_i hij
    rw[if_neg hij]
    obtain⟨cs,⟨rfl,_⟩,h3⟩:=hel j y hy
    have:=h3 0 _ rfl
    rw[hz]at this
    simpa using this
def changeE(ds:List Dim)(ats:List Attr)(c:Cell):Int :=
 if c.at_.length≠ds.length∨(c.vals.length≠0∧c.vals.length≠ats.length) then 13 else if ofB ds c.at_=false then 3 else if fitsL ats c.vals=false then 12 else 0
def changesE(ds:List Dim)(ats:List Attr):List Cell→Int
 |[]=>0
 |c::r=>if changeE ds ats c≠0 then changeE ds ats c else changesE ds ats r
def dupE(k:Int):List Pl→List Cell→Int
 |_,[]=>0
 |met,c::r=>if plOf k c.at_∈met then 5 else dupE k (met++[plOf k c.at_]) r
def Sto.checkE(st:Sto)(b:Bt):Int :=
 if nameOk b.token=false then 11 else if b.stamp<0∨1099511627776<b.stamp then 3 else match st.arrays[(findA_ st.arrays b.array).toNat]? with
 |none=>4
 |some x=>if findA_ st.arrays b.array<0 then 4 else if b.changes.length<1∨16<b.changes.length then 9 else if changesE x.arr.dims x.arr.attrs b.changes≠0 then changesE x.arr.dims x.arr.attrs b.changes else dupE (findA_ st.arrays b.array) [] b.changes
theorem hasB_last:∀(ds:List Dim) (xs:List Int),hasB (ds.map (·.lo)) (ds.map (·.last)) xs=ofB ds xs
 |[],[]=>rfl
 |[],_::_=>rfl
 |_::_,[]=>rfl
 |d::ds,x::xs=>by
  simp only[List.map_cons,hasB,ofB,hasB_last ds xs]
  have:decide (1073741825≤d.last)=false:=by rw[decide_eq_false_iff_not];unfold Dim.last;omega
  rw[this,Bool.or_false]
theorem idxOf_lt{α:Type}{p:α→Bool}:∀(l:List α) (i:Int),0≤i→idxOf p l i<i+l.length
 |[],i,h=>by simp[idxOf];omega
 |x::r,i,h=>by
  unfold idxOf
  split
  ·simp only[List.length_cons];omega
  ·have:=idxOf_lt (p:=p) r (i+1) (by omega)
   simp only[List.length_cons];omega
theorem findA_lt(l:List Nm)(nm:ByteArray):findA_ l nm<l.length:=by have:=idxOf_lt (p:=fun x=>decide (x.name=nm)) l 0 (by omega);unfold findA_;omega
theorem idxOf_ge{α:Type}{p:α→Bool}:∀(l:List α) (i:Int),0≤i→-1≤idxOf p l i
 |[],i,h=>by simp[idxOf]
 |x::r,i,h=>by
  unfold idxOf
  split
  ·omega
  ·exact idxOf_ge r (i+1) (by omega)
theorem findA_ge(l:List Nm)(nm:ByteArray): -1≤findA_ l nm:=idxOf_ge l 0 (by omega)
end Go.Vc
namespace Go.Vc
open Go Go.Proofs
theorem mix_set{α:Type}{l h:List α}{i:Nat}(h1:i<l.length)(h2:i<h.length):(l.take i++h.drop i).set i l[i]=l.take (i+1)++h.drop (i+1):=by
 have:i - (l.take i).length=0:=by simp;omega
 rw[List.set_append,if_neg (by simp;omega),List.drop_eq_getElem_cons h2,this,List.set_cons_zero,List.take_succ_eq_append_getElem h1,List.append_assoc]
 rfl
theorem mix_get{α:Type}{l h:List α}{i:Nat}(h1:i≤l.length)(h2:i<h.length):(l.take i++h.drop i)[i]?=some h[i]:=by
 rw[List.getElem?_append_right (by simp;omega),List.getElem?_drop]
 have:i+(i - (l.take i).length)=i:=by simp;omega
 rw[this,List.getElem?_eq_getElem h2]
theorem changesE_z{ds:List Dim}{ats:List Attr}:∀{l:List Cell},changesE ds ats l=0→∀c∈l,changeE ds ats c=0
 |[],_,_,hc=>by simp at hc
 |x::r,h,c,hc=>by
  rw[changesE]at h
  split at h
  ·rename_i hne;exact absurd h hne
  ·rename_i hz
   rcases List.mem_cons.1 hc with rfl|hc
   ·omega
   ·exact changesE_z h c hc
theorem changeE_len{ds:List Dim}{ats:List Attr}{c:Cell}(h:changeE ds ats c=0):c.at_.length=ds.length:=by
 unfold changeE at h
 split at h
 ·cases h
 ·rename_i hn;simp only[not_or,Decidable.not_not]at hn;exact hn.1
theorem dims_14{ds:List Dim}(hz:(dimsE [] ds).1=0):1≤ds.length∧ds.length≤4:=by
 unfold dimsE at hz
 split at hz
 ·cases hz
 ·omega
set_option maxHeartbeats 4000000 in
theorem sCheck_ok{M Mc F:List Nat}{w:World}{s l d:Nat}{num nxt:Int}{st:Sto}{b:Bt}{ca:Option Addr}{cn cc:Nat}(h:StoreAt M w s l d num nxt st F)(hc:R (tSl tCell) Mc w b.changes [.slice ca cn cc])
 (hv:∀x∈st.arrays,(dimsE [] x.arr.dims).1=0):
 Calls Tryz.prog 46 #[.pointer (some ⟨s,0,none⟩),.agg #[.string b.token,.int .i64 b.stamp,.string b.array,.slice ca cn cc]] w (PureR (.int .i64 (st.checkE b)) w):=by
 have hmx:maxSl=140737488355328:=rfl
 obtain⟨m,ra,rn,rc,qa,qn,qc,h,hl,rfl⟩:=h
 obtain⟨rfl,hcn1,hcn2⟩:=hc.sl_len
 obtain⟨hrn,_,hrn2⟩:=h.arr.sl_len
 subst hrn
 have hsl:=block_lt h.hs
 have e0:st.checkE b=st.checkE b:=rfl
 conv at e0=>rhs;unfold Sto.checkE
 refine sCheck_vc h.hs fun k1 hk1 w1 hw1 hkn1=>⟨(find_ok (M:=M) ⟨m,ra,_,rc,qa,qn,qc,h.step hw1 (by simp) (fun x hx=>⟨.inl hx,Nat.lt_of_lt_of_le (h.mlt x hx) hw1.size⟩) (block_lt hl),hl.keep hw1 (by simp),rfl⟩ b.array).mono ?_⟩
 rintro e w2 ⟨rfl,hw2⟩
 have hk1l:=block_lt hkn1.1
 have hflt:=findA_lt st.arrays b.array
 have hfge:=findA_ge st.arrays b.array
 generalize hkk:findA_ st.arrays b.array=kk at *
 refine⟨_,rfl,hw2,fun hkn2=>⟨(name_ok _ w2).mono ?_⟩⟩
 rintro e w3 ⟨rfl,hw3⟩
 have hw03:KpL [] w w3:=(hw1.trans hw2).trans hw3
 refine⟨_,rfl,hw3,fun hb _=>⟨by rw[e0,if_pos (nb_t hb)],hw03⟩,fun hb=>?_⟩
 rw[if_neg (by rw[nb_f hb];simp)]at e0
 refine⟨fun hs1=>⟨fun hs2 _=>⟨by rw[e0,if_pos (.inr hs2)],hw03⟩,fun hs2=>?_⟩,fun hs1 _=>⟨by rw[e0,if_pos (.inl hs1)],hw03⟩⟩
 rw[if_neg (by omega)]at e0
 refine⟨fun hk0 _=>⟨?_,hw03⟩,fun hk0=>?_⟩
 ·rw[e0]
  split
  ·rfl
  ·rw[if_pos hk0]
 have gk:kk.toNat<st.arrays.length:=by omega
 rw[List.getElem?_eq_getElem gk]at e0
 have hvx:=hv st.arrays[kk.toNat] (List.getElem_mem gk)
 obtain⟨ad,cs,rfl,hv1,_,_,_,hpt⟩:=h.arr.sl_get2 gk
 obtain⟨b1,p1,q1,b2,p2,q2,b3,p3,q3,rfl,hsz,hx1,hx2,hx3⟩:=hv1.nm
 have hldv:=hpt 1 [.slice b1 p1 q1,.slice b2 p2 q2,.slice b3 p3 q3] rfl
 dsimp only at e0
 generalize st.arrays[kk.toNat].arr=x at *
 rw[if_neg hk0]at e0
 refine⟨fun hl1=>⟨fun hl2 _=>⟨by rw[e0,if_pos (by omega)],hw03⟩,fun hl2=>?_⟩,fun hl1 _=>⟨by rw[e0,if_pos (by omega)],hw03⟩⟩
 rw[if_neg (by omega)]at e0
 refine⟨ad,rfl,by omega,by omega,fun hkn3=>⟨_,_,_,_,_,_,_,_,_,hldv.kp hw03,fun k8 hk8 w4 hw4 hkn4=>?_⟩⟩
 have hk04:=hw03.trans hw4
 have hK4:∀y∈[k8,k1,s],y<w4.heap.size:=by
  intro y hy
  simp only[List.mem_cons,List.not_mem_nil,or_false]at hy
  rcases hy with rfl|rfl|rfl
  ·exact block_lt hkn4.1
  ·exact block_lt hkn4.2.1
  ·exact block_lt hkn4.2.2
 refine⟨(whole_ok hK4 (hx1.kp0 hk04) hvx).mono ?_⟩
 rintro e w5 ⟨a4,k9,k10,a5,k11,k12,rfl,hw5,hnew,hA5⟩
 have hds:=dims_14 hvx
 have hk05:=hk04.trans hw5
 have s05:=hk05.size
 have s45:=hw5.size
 have hhi5:=fun y hy=>(hA5.h.blk_lt y hy).1
 have e11:k11=x.dims.length:=by have:=hA5.h.len;simpa using this
 have hd6:=fun w' (hk:KpL [] w w')=>hx1.kp0 hk
 refine⟨_,_,_,_,_,_,_,rfl,hw5,fun k13 hk13=>⟨fun vs w'=>∃i:Nat,vs=[.int .i64 (i:Int)]∧i≤x.dims.length∧KpL [] w w'∧Acc2 [k8,k1,s] w' (x.dims.map (·.lo)) a4 k9 k10 ((x.dims.map (·.last)).take i++(x.dims.map (·.hi)).drop i) a5 k11 k12,
  fun vs _=>match vs with|[.int _ i]=>x.dims.length - i.toNat|_=>0,fun w6 hw6 _=>⟨0,rfl,by omega,hk05.trans hw6,by simpa using hA5.kp0 hw6⟩,?_⟩⟩
 rintro n3 w7 ⟨i,hvs,hi,hk07,hA7⟩
 simp only[List.cons.injEq,Value.int.injEq,true_and,and_true]at hvs
 subst hvs
 constructor
 ·intro hlt
  have gi:i<x.dims.length:=by omega
  have gl:i<((x.dims.map (·.last)).take i++(x.dims.map (·.hi)).drop i).length:=by simp;omega
  have hRh:=hA7.h.done (by omega)
  obtain⟨ad5,cs5,rfl,hv5,hld5,hb5,hb5'⟩:=hRh.sl_get gl
  have hgv:((x.dims.map (·.last)).take i++(x.dims.map (·.hi)).drop i)[i]=x.dims[i].hi:=by
   have:=mix_get (l:=x.dims.map (·.last)) (h:=x.dims.map (·.hi)) (i:=i) (by simp;omega) (by simpa using gi)
   rw[List.getElem?_eq_getElem gl]at this
   simpa using this
  rw[hgv]at hv5
  obtain⟨rfl,hin5⟩:=hv5.intD
  have hin':InI .i64 x.dims[i].last:=by rw[ini_i64]at hin5 ⊢;unfold Dim.last;omega
  obtain⟨t1,t2,t3,t4,t5⟩:=hA7.h.setI gl hin'
  have hset:((x.dims.map (·.last)).take i++(x.dims.map (·.hi)).drop i).set i x.dims[i].last=(x.dims.map (·.last)).take (i+1)++(x.dims.map (·.hi)).drop (i+1):=by
   have:=mix_set (l:=x.dims.map (·.last)) (h:=x.dims.map (·.hi)) (i:=i) (by simpa using gi) (by simpa using gi)
   rw[←this];simp
  rw[hset]at t4
  have hbl:=hhi5 ad5.block (by simp[blkL])
  have hge:=hnew ad5.block (by simp[blkL])
  have s8:=block_lt hkn4.1
  have hkp8:KpL [] w (stA w7 (ad5.add (i*1)) [.int .i64 x.dims[i].last] 0):=hk07.more t5 (by simp;have:=hk04.size;omega)
  refine⟨ad5,rfl,by omega,hlt,fun _=>⟨_,hld5,_,pv_min,ad5,rfl,by omega,hlt,fun hkn7=>⟨t1,t2,⟨⟨by rw[List.mem_singleton,Int.toNat_natCast,t3];omega⟩,⟨by rw[List.mem_singleton,Int.toNat_natCast,t3];have:=hK4 k8 (by simp);omega⟩,⟨by rw[List.mem_singleton,Int.toNat_natCast,t3];have:=hK4 k1 (by simp);omega⟩,⟨by rw[List.mem_singleton,Int.toNat_natCast,t3];have:=hK4 s (by simp);omega⟩⟩,?_⟩⟩⟩
  rintro w8 rfl
  refine⟨ini_i64.2 (by omega),fun _=>⟨⟨i+1,rfl,by omega,hkp8,⟨hA7.l.kp t5 (by simp[blkL]),t4⟩⟩,by dsimp only;omega⟩⟩
 intro hge
 have hie:i=x.dims.length:=by omega
 subst hie
 have hlo:=hA7.l.done (by have:=hA7.l.len;simp at this;omega)
 have hhi:=hA7.h.done (by omega)
 have ehi:(x.dims.map (·.last)).take x.dims.length++(x.dims.map (·.hi)).drop x.dims.length=x.dims.map (·.last):=by rw[List.take_of_length_le (by simp),List.drop_of_length_le (by simp),List.append_nil]
 rw[ehi]at hhi
 have hlol:k9=x.dims.length:=by have:=hA7.l.len;simpa using this
 obtain⟨hp1,_,_⟩:=hx1.sl_len
 obtain⟨hp2,_,hq2⟩:=hx2.sl_len
 refine⟨fun vs w'=>∃i:Nat,vs=[.int .i64 (i:Int)]∧i≤b.changes.length∧KpL [] w7 w'∧changesE x.dims x.attrs (b.changes.drop i)=changesE x.dims x.attrs b.changes,fun vs _=>match vs with|[.int _ i]=>b.changes.length - i.toNat|_=>0,fun _=>⟨0,rfl,by omega,KpL.refl _ _,rfl⟩,?_⟩
 rintro n6 w9 ⟨i,hvs,hi,hk79,he1⟩
 simp only[List.cons.injEq,Value.int.injEq,true_and,and_true]at hvs
 subst hvs
 have hk09:=hk07.trans hk79
 constructor
 ·intro hlt
  have gi:i<b.changes.length:=by omega
  rw[List.drop_eq_getElem_cons gi,changesE]at he1
  obtain⟨ad4,cs4,rfl,hv4,hld4,_,_⟩:=(hc.kp0 hk09).sl_get gi
  obtain⟨a6,k14,k15,a7,k16,k17,rfl,hy1,hy2⟩:=hv4.cell
  generalize b.changes[i]=c at *
  obtain⟨hy1l,_,_⟩:=hy1.sl_len
  obtain⟨hy2l,_,hy2m⟩:=hy2.sl_len
  have bad:∀{z:Int},changeE x.dims x.attrs c=z→z≠0→st.checkE b=z:=by
   intro z hz hz0
   rw[if_pos (by rw[hz];exact hz0),hz]at he1
   rw[e0,←he1,if_pos hz0]
  have dec:b.changes.length - ((i:Int)+1).toNat<b.changes.length - (i:Int).toNat:=by omega
  refine⟨ad4,rfl,by omega,hlt,fun hkn9=>⟨_,_,_,_,_,_,hld4,fun k18 hk18=>⟨fun hl1=>⟨fun hz=>⟨fun hl2 w10 hw10 _=>⟨?_,hk09.trans hw10⟩,fun hl2 w11 hw11 _=>⟨(has_ok (((hlo.kp0 hk79).kp0 hw11)) ((hhi.kp0 hk79).kp0 hw11) (hy1.kp0 hw11) (by simp) (by simp;omega) (by simp;omega) (by simp;omega)).mono ?_⟩⟩,fun hz w16 hw16 _=>⟨(has_ok (((hlo.kp0 hk79).kp0 hw16)) ((hhi.kp0 hk79).kp0 hw16) (hy1.kp0 hw16) (by simp) (by simp;omega) (by simp;omega) (by simp;omega)).mono ?_⟩⟩,fun hl1 w21 hw21 _=>⟨?_,hk09.trans hw21⟩⟩⟩⟩
  ·rw[bad (z:=13) (by unfold changeE;rw[if_pos (.inr ⟨by omega,by omega⟩)]) (by omega)]
  ·rintro e w12 ⟨rfl,hw12⟩
   rw[hasB_last]
   have hk912:=hw11.trans hw12
   refine⟨_,rfl,hw12,fun hb1 _=>⟨?_,hk09.trans hk912⟩,fun hb1=>⟨fun vs w'=>∃j:Nat,vs=[.int .i64 (j:Int)]∧j≤c.vals.length∧KpL [] w9 w'∧fitsL (x.attrs.drop j) (c.vals.drop j)=fitsL x.attrs c.vals,
    fun vs _=>match vs with|[.int _ i]=>c.vals.length - i.toNat|_=>0,fun _=>⟨0,rfl,by omega,hk912,rfl⟩,?_⟩⟩
   ·rw[bad (z:=3) (by unfold changeE;rw[if_neg (by omega),if_pos (nb_t hb1)]) (by omega)]
   rintro n7 w13 ⟨j,hvs,hj,hk913,he2⟩
   simp only[List.cons.injEq,Value.int.injEq,true_and,and_true]at hvs
   subst hvs
   have hk013:=hk09.trans hk913
   have ec:changeE x.dims x.attrs c=if fitsL x.attrs c.vals=false then 12 else 0:=by unfold changeE;rw[if_neg (by omega),if_neg (by rw[nb_f hb1];simp)]
   constructor
   ·intro hjl
    have gj:j<c.vals.length:=by omega
    have gj2:j<x.attrs.length:=by omega
    obtain⟨ad7,cs7,rfl,hv7,hld7,_,_⟩:=(hy2.kp0 hk913).sl_get gj
    obtain⟨rfl,_⟩:=hv7.val
    obtain⟨ad2,cs2,rfl,hv2,hld2,_,_,hpt2⟩:=(hx2.kp0 hk013).sl_get2 gj2
    obtain⟨rfl,_⟩:=hv2.attr
    rw[List.drop_eq_getElem_cons gj,List.drop_eq_getElem_cons gj2,fitsL]at he2
    refine⟨ad7,rfl,by omega,hjl,fun _=>⟨_,_,_,_,hld7,fun _ _=>⟨ad2,rfl,by omega,by omega,_,hpt2 1 [_] rfl,fun w14 hw14 _=>⟨(fits_ok c.vals[j] x.attrs[j].type w14).mono ?_⟩⟩⟩⟩
    rintro e w15 ⟨rfl,hw15⟩
    have hk915:=(hk913.trans hw14).trans hw15
    refine⟨_,rfl,hw15,fun hf _=>⟨?_,hk09.trans hk915⟩,fun hf=>⟨ini_i64.2 (by omega),fun _=>⟨⟨j+1,rfl,by omega,hk915,?_⟩,by dsimp only;omega⟩⟩⟩
    ·rw[nb_t hf]at he2
     rw[bad (z:=12) (by rw[ec,if_pos (by rw[←he2];rfl)]) (by omega)]
    ·rw[nb_f hf]at he2
     rw[←he2];simp
   ·intro hjg
    have hje:j=c.vals.length:=by omega
    refine⟨ini_i64.2 (by omega),fun _=>⟨⟨i+1,rfl,by omega,hk79.trans hk913,?_⟩,dec⟩⟩
    rw[hje,List.drop_length]at he2
    rw[if_neg (by rw[ec,if_neg (by rw[←he2];simp[fitsL])];simp)]at he1
    exact he1
  ·rintro e w12 ⟨rfl,hw12⟩
   rw[hasB_last]
   have hk912:=hw16.trans hw12
   have hvn:c.vals=[]:=List.eq_nil_of_length_eq_zero (by omega)
   refine⟨_,rfl,hw12,fun hb1 _=>⟨?_,hk09.trans hk912⟩,fun hb1=>⟨fun vs w'=>vs=[.int .i64 0]∧KpL [] w9 w',
    fun vs _=>0,fun _=>⟨rfl,hk912⟩,?_⟩⟩
   ·rw[bad (z:=3) (by unfold changeE;rw[if_neg (by omega),if_pos (nb_t hb1)]) (by omega)]
   rintro n7 w13 ⟨hvs,hk913⟩
   simp only[List.cons.injEq,Value.int.injEq,true_and,and_true]at hvs
   subst hvs
   refine⟨fun hjl=>by omega,fun _=>⟨ini_i64.2 (by omega),fun _=>⟨⟨i+1,rfl,by omega,hk79.trans hk913,?_⟩,dec⟩⟩⟩
   rw[if_neg (by unfold changeE;rw[if_neg (by omega),if_neg (by rw[nb_f hb1];simp),hvn,if_neg (by simp[fitsL])];simp)]at he1
   exact he1
  ·rw[bad (z:=13) (by unfold changeE;rw[if_pos (.inl (by omega))]) (by omega)]
 intro hge6
 rw[List.drop_eq_nil_of_le (by omega),changesE]at he1
 rw[if_neg (by rw[←he1];simp),]at e0
 have hatl:∀c∈b.changes,c.at_.length≤4:=fun c hcm=>by have:=changeE_len (changesE_z he1.symm c hcm);omega
 intro hkn9
 have s9:=hk09.size
 refine ev_makeMap (enc:=Pl.enc) (t:=tB) (M:=[]) (by simp) fun w22 hm22 hk22=>⟨_,rfl,[],hk22,⟨⟨by simp⟩,⟨by simp⟩,⟨by simp⟩,⟨by simp⟩⟩,?_⟩
 have hc22:=(hc.kp0 hk09).fresh hk22 (N:=[w9.heap.size]) (by simp)
 have hk022:=hk09.trans hk22
 have n13:=block_lt hkn9.1
 have n8:=block_lt hkn9.2.1
 have n1:=block_lt hkn9.2.2.1
 have n0:=block_lt hkn9.2.2.2
 generalize hmm:w9.heap.size=mm at *
 refine⟨fun vs w'=>∃(i:Nat) (mt:List Pl),vs=[.int .i64 (i:Int)]∧i≤b.changes.length∧KpL [] w w'∧KpL [mm] w22 w'∧MetP [] w' mm mt∧dupE kk mt (b.changes.drop i)=dupE kk [] b.changes,fun vs _=>match vs with|[.int _ i]=>b.changes.length - i.toNat|_=>0,fun _=>⟨0,[],rfl,by omega,hk022,KpL.refl _ _,hm22,rfl⟩,?_⟩
 rintro n17 w23 ⟨i,mt,hvs,hi,hk023,hk223,hm23,he3⟩
 simp only[List.cons.injEq,Value.int.injEq,true_and,and_true]at hvs
 subst hvs
 constructor
 ·intro hlt
  have gi:i<b.changes.length:=by omega
  rw[List.drop_eq_getElem_cons gi,dupE]at he3
  obtain⟨ad4,cs4,rfl,hv4,hld4,_,_⟩:=(hc22.kp hk223 (by simp)).sl_get gi
  obtain⟨a6,k14,k15,a7,k16,k17,rfl,hy1,hy2⟩:=hv4.cell
  have hcl:=hatl _ (List.getElem_mem gi)
  generalize b.changes[i]=c at *
  refine⟨ad4,rfl,by omega,hlt,fun hkn23=>⟨_,_,_,_,_,_,hld4,fun k25 hk25 w24 hw24 hkn24=>⟨(key_ok (x:=kk) (hy1.kp0 hw24) hcl).mono ?_⟩⟩⟩
  rintro e w25 ⟨rfl,hw25⟩
  generalize hpp:plOf kk c.at_=p at *
  refine⟨p.a,p.p0,p.p1,p.p2,p.p3,rfl,hw25,fun k26 hk26 w26 hw26 hkn26=>?_⟩
  have hk236:=(hw24.trans hw25).trans hw26
  have hm26:=hm23.kp0 hk236
  have hmlt:=hm23.lt
  have s236:=hk236.size
  have hk026:=hk023.trans hk236
  refine ev_metP hm26 p ⟨_,rfl,[],KpL.refl _ _,⟨⟨by simp⟩,⟨by simp⟩,⟨by simp⟩,⟨by simp⟩,⟨by simp⟩,⟨by simp⟩⟩,fun hmem _=>⟨?_,hk026⟩,fun hnm hkn27=>?_⟩
  ·rw[if_pos (of_decide_eq_true hmem)]at he3
   rw[e0,←he3]
  ·have hnm':=of_decide_eq_false hnm
   rw[if_neg hnm']at he3
   refine ev_meetP hm26 hnm' fun w28 hm28 hk28=>⟨rfl,[mm],hk28,⟨⟨by simp;have:=hw24.size;have:=hw25.size;omega⟩,⟨by simp;omega⟩,⟨by simp;omega⟩,⟨by simp;omega⟩,⟨by simp;omega⟩,⟨by simp;omega⟩⟩,ini_i64.2 (by omega),fun _=>⟨⟨i+1,_,rfl,by omega,hk026.more hk28 (by simp;omega),(hk223.trans (hk236.mono (by simp))).trans hk28,hm28,he3⟩,by dsimp only;omega⟩⟩
 ·intro hge _
  rw[List.drop_eq_nil_of_le (by omega),dupE]at he3
  exact⟨by rw[e0,←he3],hk023⟩
end Go.Vc
namespace Go.Vc
open Go Go.Proofs
theorem encN_lt(f:Nat):∀(m n:Nat),n<128 ^ (m+1)→(encN f n).length≤m+1:=by
 induction f with
 |zero=>intro m n _;simp[encN]
 |succ f ih =>
  intro m n h
  unfold encN
  split
  ·simp
  ·rename_i hn
   cases m with
   |zero=>simp at h;omega
   |succ m =>
    have:n / 128<128 ^ (m+1):=by
     rw[Nat.div_lt_iff_lt_mul (by omega)]
     rw[Nat.pow_succ]at h
     exact h
    have:=ih m _ this
    simp only[List.length_cons]
    omega
theorem encU_lt(m:Nat){n:Int}(h:n.toNat<128 ^ (m+1)):(encU n).length≤m+1:=encN_lt _ m _ h
theorem encS_12{s:ByteArray}(h:s.size≤12):(encS s).length≤13:=by
 unfold encS
 rw[List.length_append,strI_len]
 have:=encU_lt 0 (n:=s.size) (by simp;omega)
 omega
theorem encS_16{s:ByteArray}(h:s.size≤16):(encS s).length≤17:=by
 unfold encS
 rw[List.length_append,strI_len]
 have:=encU_lt 0 (n:=s.size) (by simp;omega)
 omega
theorem zig_lt{x:Int}{b:Nat}(h0 : -(b:Int)≤x)(h1:x≤b):(zig x).toNat≤2*b:=by unfold zig;split<;>omega
theorem encV_len{v:Vl}(h:v.right=true):(encV v).length≤18:=by
 unfold Vl.right at h
 unfold encV
 split at h
 ·rw[if_neg (by omega),if_neg (by omega)];simp
 split at h
 ·rw[if_neg (by omega),if_neg (by omega)];simp
 split at h
 ·rename_i h2
  rw[if_neg (by omega),if_pos h2]
  simp only[Bool.and_eq_true,decide_eq_true_eq]at h
  obtain⟨_,h3,h4,h5,h6,_⟩:=h
  have e1:=encU_lt 5 (n:=zig v.n) (by have:=zig_lt (x:=v.n) (b:=1099511627776) (by omega) (by omega);omega)
  have e2:=encU_lt 5 (n:=IntKind.u64.wrap v.d) (by rw[wrap_in (ini_u64.2 (by omega))];omega)
  simp only[List.length_cons,List.length_append]
  omega
 split at h
 ·rename_i h2
  rw[if_pos h2]
  simp only[Bool.and_eq_true,decide_eq_true_eq]at h
  have:=encS_16 h.2.2.1
  simp only[List.length_cons]
  omega
 ·cases h
theorem flat_le{α:Type}{f:α→List Int}{k:Nat}:∀{l:List α},(∀x∈l,(f x).length≤k)→(l.flatMap f).length≤l.length*k
 |[],_=>by simp
 |x::r,h=>by
  have h1:=h x (by simp)
  have h2:=flat_le (l:=r) fun y hy=>h y (by simp[hy])
  simp only[List.flatMap_cons,List.length_append,List.length_cons,Nat.succ_mul]
  omega
theorem encVs_len{l:List Vl}(h:∀v∈l,v.right=true)(hn:l.length≤6):(encVs l).length≤109:=by
 unfold encVs
 have h1:=flat_le (f:=encV) (k:=18) fun v hv=>encV_len (h v hv)
 have h2:=encU_lt 0 (n:=l.length) (by simp;omega)
 rw[List.length_append]
 omega
theorem encAt_len{l:List Int}(h:∀x∈l,-1073741824≤x∧x≤1073741824)(hn:l.length≤4):(encAt l).length≤20:=by
 unfold encAt
 have h1:=flat_le (f:=fun n=>encU (zig n)) (k:=5) (l:=l) fun x hx=>by
  have:=h x hx
  exact encU_lt 4 (by have:=zig_lt (x:=x) (b:=1073741824) (by omega) (by omega);omega)
 omega
theorem fits_len:∀{ats:List Attr} {vs:List Vl},fitsL ats vs=true→vs.length≤ats.length∧∀v∈vs,v.right=true
 |_,[],_=>by simp
 |[],_::_,h=>by simp[fitsL]at h
 |a::ats,v::vs,h=>by
  simp only[fitsL,Bool.and_eq_true]at h
  obtain⟨h1,h2⟩:=fits_len h.2
  simp only[List.length_cons,List.mem_cons]
  refine⟨by omega,fun x hx=>?_⟩
  rcases hx with rfl|hx
  ·have:=h.1
   unfold Vl.fits at this
   simp only[Bool.and_eq_true]at this
   exact this.1
  ·exact h2 x hx
theorem sch_dims{ds:List Dim}{ats:List Attr}(h:schemaE ds ats=0):(dimsE [] ds).1=0∧1≤ats.length∧ats.length≤6:=by
 unfold schemaE at h
 split at h
 ·omega
 ·rename_i h1
  split at h
  ·cases h
  ·omega
theorem dimsL_in:∀{ds:List Dim} {met:List ByteArray},(dimsL met ds).1=0→∀d∈ds,nameOk d.name=true∧-1073741824≤d.lo∧d.lo≤d.hi∧d.hi≤1073741825∧d.lo≤1073741824
 |[],_,_,d,hd=>by simp at hd
 |x::r,met,h,d,hd=>by
  unfold dimsL at h
  split at h
  ·cases h
  rename_i h1
  split at h
  ·cases h
  rename_i h2
  rcases List.mem_cons.1 hd with rfl|hd
  ·simp only[not_or]at h1
   exact⟨by simpa using h1.1,by omega,by omega,by omega,by omega⟩
  ·exact dimsL_in h d hd
theorem dims_in{ds:List Dim}(h:(dimsE [] ds).1=0):∀d∈ds,nameOk d.name=true∧-1073741824≤d.lo∧d.lo≤d.hi∧d.hi≤1073741825∧d.lo≤1073741824:=by
 unfold dimsE at h
 split at h
 ·cases h
 ·exact dimsL_in h
theorem attrsL_in:∀{l:List Attr} {met:List ByteArray},attrsL met l=0→∀a∈l,nameOk a.name=true∧1≤a.type∧a.type≤4
 |[],_,_,d,hd=>by simp at hd
 |x::r,met,h,d,hd=>by
  unfold attrsL at h
  split at h
  ·cases h
  rename_i h1
  split at h
  ·cases h
  rename_i h2
  rcases List.mem_cons.1 hd with rfl|hd
  ·simp only[not_or]at h1
   exact⟨by simpa using h1.1,by omega,by omega⟩
  ·exact attrsL_in h d hd
theorem sch_attrs{ds:List Dim}{ats:List Attr}(h:schemaE ds ats=0):∀a∈ats,nameOk a.name=true∧1≤a.type∧a.type≤4:=by
 unfold schemaE at h
 split at h
 ·omega
 split at h
 ·cases h
 ·exact attrsL_in h
theorem ofB_in:∀{ds:List Dim} {xs:List Int},ofB ds xs=true→(∀d∈ds,-1073741824≤d.lo)→xs.length=ds.length→∀x∈xs,-1073741824≤x∧x≤1073741824
 |_,[],_,_,_,x,hx=>by simp at hx
 |[],_::_,_,_,h,_,_=>by simp at h
 |d::ds,y::ys,h,hd,hl,x,hx=>by
  simp only[ofB,Bool.and_eq_true,decide_eq_true_eq]at h
  have hd1:=hd d (by simp)
  rcases List.mem_cons.1 hx with rfl|hx
  ·have h1:d.lo≤x:=by simp_all
   have h2:x≤d.last:=by simp_all
   unfold Dim.last at h2
   omega
  ·exact ofB_in (ds:=ds) (xs:=ys) (by simp_all) (fun e he=>hd e (by simp[he])) (by simpa using hl) x hx
theorem nameOk_12{s:ByteArray}(h:nameOk s=true):1≤s.size∧s.size≤12:=by
 unfold nameOk at h
 simp only[Bool.and_eq_true,decide_eq_true_eq]at h
 exact⟨h.1,h.2.1⟩
theorem changeE_ok{ds:List Dim}{ats:List Attr}{c:Cell}(h:changeE ds ats c=0):c.at_.length=ds.length∧ofB ds c.at_=true∧fitsL ats c.vals=true∧(c.vals=[]∨c.vals.length=ats.length):=by
 unfold changeE at h
 split at h
 ·cases h
 ·rename_i h1
  split at h
  ·cases h
  ·rename_i h2
   split at h
   ·cases h
   ·rename_i h3
    simp only[not_or,not_and,Decidable.not_not]at h1
    refine⟨h1.1,by simpa using h2,by simpa using h3,?_⟩
    by_cases h0:c.vals.length=0
    ·exact .inl (List.eq_nil_of_length_eq_zero h0)
    ·exact .inr (h1.2 h0)
theorem change_len{ds:List Dim}{ats:List Attr}(hs:schemaE ds ats=0){c:Cell}(h:changeE ds ats c=0):c.at_.length≤4∧c.vals.length≤6∧(encVs c.vals).length≤109∧(encAt c.at_).length≤20:=by
 obtain⟨c1,c2,c3,_⟩:=changeE_ok h
 obtain⟨c5,c6⟩:=fits_len c3
 obtain⟨s1,_,s3⟩:=sch_dims hs
 have hd:=dims_14 s1
 exact⟨by omega,by omega,encVs_len c6 (by omega),encAt_len (ofB_in c2 (fun d hdm=>(dims_in s1 d hdm).2.1) c1) (by omega)⟩
structure BtOk (st:Sto) (b:Bt):Prop where
 tok:nameOk b.token=true
 s0:0≤b.stamp
 s1:b.stamp≤1099511627776
 k0:0≤findA_ st.arrays b.array
 c1:1≤b.changes.length
 c2:b.changes.length≤16
 arr:∃x,st.arrays[(findA_ st.arrays b.array).toNat]?=some x∧∀c∈b.changes,changeE x.arr.dims x.arr.attrs c=0
 dup:dupE (findA_ st.arrays b.array) [] b.changes=0
theorem checkE_ok{st:Sto}{b:Bt}(h:st.checkE b=0):BtOk st b:=by
 unfold Sto.checkE at h
 split at h
 ·cases h
 rename_i h1
 split at h
 ·cases h
 rename_i h2
 split at h
 ·cases h
 rename_i x hx
 split at h
 ·cases h
 rename_i h3
 split at h
 ·cases h
 rename_i h4
 split at h
 ·omega
 rename_i h5
 exact⟨by simpa using h1,by omega,by omega,by omega,by omega,by omega,⟨x,hx,changesE_z (by omega)⟩,h⟩
theorem encB_len{st:Sto}{b:Bt}(hs:∀x∈st.arrays,schemaE x.arr.dims x.arr.attrs=0)(ha:st.arrays.length≤16)(h:BtOk st b):(encB st.arrays b).length≤21+129*b.changes.length:=by
 obtain⟨x,hx,hall⟩:=h.arr
 have hxs:=hs x (List.mem_of_getElem? hx)
 have h1:=flat_le (f:=encC) (k:=129) (l:=b.changes) fun c hc=>by
  obtain⟨_,_,c3,c4⟩:=change_len hxs (hall c hc)
  unfold encC
  rw[List.length_append]
  omega
 have h2:=encS_12 (nameOk_12 h.tok).2
 have h3:=encU_lt 5 (n:=zig b.stamp) (by have:=zig_lt (x:=b.stamp) (b:=1099511627776) (by have:=h.s0;omega) (by have:=h.s1;omega);omega)
 have hk0:=h.k0
 have hkl:=findA_lt st.arrays b.array
 have h4:=encU_lt 0 (n:=IntKind.u64.wrap (findA_ st.arrays b.array)) (by rw[wrap_in (ini_u64.2 (by omega))];simp;omega)
 have hc2:=h.c2
 have h5:=encU_lt 0 (n:=b.changes.length) (by simp;omega)
 unfold encB
 simp only[List.length_append]
 omega
end Go.Vc
namespace Go.Vc
open Go Go.Proofs
structure SysAt (M:List Nat) (w:World) (s l d:Nat) (num:Int) (nxt:Nat) (st:Sto) (k:Dk) (F Fd:List Nat):Prop where
 sto:StoreAt (Fd++M) w s l d num nxt st F
 dk:DkAt (F++M) w d k Fd
theorem StoIn.stepL{M M' Fd:List Nat}{w w':World}{s l m:Nat}{st:Sto}{ra:Option Addr}{rn rc:Nat}{qa:Option Addr}{qn qc:Nat}(h:StoIn (Fd++M) w s l st m ra rn rc qa qn qc)(kp:KpL (l::Fd) w w')
 (hn:∀b∈M',(b∈Fd++M∨w.heap.size≤b)∧b<w'.heap.size)(hl:l<w.heap.size):StoIn M' w' s l st m ra rn rc qa qn qc:=by
 have ls:=block_lt h.hs
 have lm:=h.pls.lt
 have hsz:=kp.size
 have hout:∀x,x<w.heap.size→x∉Fd++M→x∉M':=fun x hx hxM hm=>(hn x hm).1.elim hxM (fun hge=>by omega)
 have hF:∀x∈Fd,x∈Fd++M:=fun x hx=>List.mem_append_left _ hx
 refine⟨(kp.blk s ls fun hm=>?_).trans h.hs,h.arr.step kp (fun b hb=>?_) ?_,h.pls.step kp (fun b hb=>?_) ?_,h.bat.step kp (fun b hb=>?_) ?_,h.sl,hout s ls h.sM,hout l hl h.lM,h.idI,h.useI,h.keys⟩
 ·rcases List.mem_cons.1 hm with hm|hm
  ·exact h.sl hm
  ·exact h.sM (hF s hm)
 ·rcases List.mem_cons.1 hb with rfl|hb
  ·simp
  ·simp[hb]
 ·intro b hb
  simp only[List.mem_cons,List.mem_append]at hb ⊢
  rcases hb with hb|hb|hb|hb|hb
  ·simp[hb]
  ·simp[hb]
  ·simp[hb]
  ·simp[hb]
  ·exact(hn b hb).1.imp (fun h=>by simp at h;simp[h]) id
 ·rcases List.mem_cons.1 hb with rfl|hb
  ·simp
  ·simp[hb]
 ·intro b hb
  simp only[List.mem_cons,List.mem_append]at hb ⊢
  rcases hb with hb|hb|hb|hb
  ·simp[hb]
  ·simp[hb]
  ·simp[hb]
  ·exact(hn b hb).1.imp (fun h=>by simp at h;simp[h]) id
 ·rcases List.mem_cons.1 hb with rfl|hb
  ·simp
  ·simp[hb]
 ·intro b hb
  simp only[List.mem_cons]at hb ⊢
  rcases hb with rfl|rfl|rfl|hb
  ·exact⟨.inl (by simp),by omega⟩
  ·exact⟨.inl (by simp),by omega⟩
  ·exact⟨.inl (by simp),by omega⟩
  ·exact⟨(hn b hb).1.imp (fun h=>by simp at h;simp[h]) id,(hn b hb).2⟩
section
variable {M F Fd:List Nat} {w w':World} {s l d:Nat} {num:Int} {nxt:Nat} {st:Sto} {k:Dk} (h:SysAt M w s l d num nxt st k F Fd)
include h
theorem SysAt.kp0(kp:KpL [] w w'):SysAt M w' s l d num nxt st k F Fd:=⟨h.sto.kp0 kp,h.dk.kp0 kp⟩
theorem SysAt.step{M' N:List Nat}(kp:KpL N w w')(hs:∀b∈N,b∈M)(hn:∀b∈M',(b∈M∨w.heap.size≤b)∧b<w'.heap.size):SysAt M' w' s l d num nxt st k F Fd:=by
 have hsz:=kp.size
 refine⟨h.sto.step kp (fun b hb=>by simp[hs b hb]) fun b hb=>?_,h.dk.step kp (fun b hb=>by simp[hs b hb]) fun b hb=>?_⟩
 ·rcases List.mem_append.1 hb with hb|hb
  ·exact⟨.inl (by simp[hb]),by have:=(h.dk.own_lt b hb).1;omega⟩
  ·exact⟨(hn b hb).1.imp (fun h=>by simp[h]) id,(hn b hb).2⟩
 ·rcases List.mem_append.1 hb with hb|hb
  ·exact⟨.inl (by simp[hb]),by have:=(h.sto.own_lt b hb).1;omega⟩
  ·exact⟨(hn b hb).1.imp (fun h=>by simp[h]) id,(hn b hb).2⟩
theorem SysAt.mlt:∀b∈M,b<w.heap.size:=fun b hb=>h.dk.mlt b (by simp[hb])
theorem SysAt.own_lt:∀b∈F++Fd,b<w.heap.size∧b∉M:=by
 intro b hb
 rcases List.mem_append.1 hb with hb|hb
 ·exact⟨(h.sto.own_lt b hb).1,fun hm=>(h.sto.own_lt b hb).2 (by simp[hm])⟩
 ·exact⟨(h.dk.own_lt b hb).1,fun hm=>(h.dk.own_lt b hb).2 (by simp[hm])⟩
theorem SysAt.logTo{nxt':Nat}{num':Int}{k':Dk}(ht:LogTo (F++M) Fd w l d num' nxt' k' w'):∃Fd',SysAt M w' s l d num' nxt' st k' F Fd'∧Own (F++Fd) w (F++Fd') w':=by
 obtain⟨Fd',hD,hO,hL⟩:=ht
 have hsz:=hO.kp.size
 refine⟨Fd',⟨?_,hD⟩,⟨hO.kp.mono fun x hx=>?_,fun x hx=>?_⟩⟩
 ·obtain⟨m,ra,rn,rc,qa,qn,qc,h',hl,rfl⟩:=h.sto
  refine⟨m,ra,rn,rc,qa,qn,qc,h'.stepL hO.kp (fun b hb=>?_) (block_lt hl),hL,rfl⟩
  rcases List.mem_append.1 hb with hb|hb
  ·refine⟨?_,(hD.own_lt b hb).1⟩
   rcases hO.new b (by simp[hb]) with hb'|hb'
   ·rcases List.mem_cons.1 hb' with rfl|hb'
    ·exact absurd (by simp) (hD.own_lt b hb).2
    ·exact .inl (by simp[hb'])
   ·exact .inr hb'
  ·exact⟨.inl (by simp[hb]),by have:=h.mlt b hb;omega⟩
 ·rcases List.mem_cons.1 hx with rfl|hx
  ·exact List.mem_append_left _ h.sto.lF
  ·simp[hx]
 ·rcases List.mem_append.1 hx with hx|hx
  ·exact .inl (by simp[hx])
  ·rcases hO.new x (by simp[hx]) with hx|hx
   ·rcases List.mem_cons.1 hx with rfl|hx
    ·exact .inl (List.mem_append_left _ h.sto.lF)
    ·exact .inl (by simp[hx])
   ·exact .inr hx
theorem SysAt.stoTo{st':Sto}{F':List Nat}{num':Int}{nxt':Nat}(hS:StoreAt (Fd++M) w' s l d num' nxt' st' F')(hO:Own F w F' w'):SysAt M w' s l d num' nxt' st' k F' Fd∧Own (F++Fd) w (F'++Fd) w':=by
 refine⟨⟨hS,h.dk.step hO.kp (fun b hb=>by simp[hb]) fun b hb=>?_⟩,⟨hO.kp.mono fun x hx=>by simp[hx],fun x hx=>?_⟩⟩
 ·rcases List.mem_append.1 hb with hb|hb
  ·exact⟨(hO.new b hb).imp (fun h=>by simp[h]) id,(hS.own_lt b hb).1⟩
  ·exact⟨.inl (by simp[hb]),hS.mlt b (by simp[hb])⟩
 ·rcases List.mem_append.1 hx with hx|hx
  ·exact(hO.new x hx).imp (fun h=>by simp[h]) id
  ·exact .inl (by simp[hx])
end
structure AddOk (k:Dk) (num:Int) (nxt:Nat) (q:Int) (b:List Int):Prop where
 n2:2≤k.n
 fit:nxt+secsOf b<k.half
 pl:k.pend.length≤900000
 ps:(k.add1 num nxt b).2.pend.length≤1000000
 ps2:((k.add1 num nxt b).2.write (k.base num+nxt) (headOf q b.length)).2.pend.length≤1000000
structure PutR where
 ok:Bool
 e:Int
 st:Sto
 k:Dk
 nxt:Nat
def Sto.put(st:Sto)(k:Dk)(num:Int)(nxt:Nat)(b:Bt):PutR :=
 if readyE st k≠0 then ⟨false,readyE st k,st,k,nxt⟩ else if st.checkE b≠0 then ⟨false,st.checkE b,st,k,nxt⟩ else if st.batches.any (fun x=>decide (x.token=b.token))=true then ⟨false,0,st,k,nxt⟩
 else if k.half<st.use+b.weight then ⟨false,18,st,k,nxt⟩
 else if (k.add num nxt 2 (encB st.arrays b)).1≠0 then ⟨false,(k.add num nxt 2 (encB st.arrays b)).1,{ st with id:=-1 },(k.add num nxt 2 (encB st.arrays b)).2,nxt⟩
 else ⟨true,0,st.commit b,(k.add num nxt 2 (encB st.arrays b)).2,nxt+1+secsOf (encB st.arrays b)⟩
structure StoB (st:Sto):Prop where
 an:st.arrays.length≤16
 sch:∀x∈st.arrays,schemaE x.arr.dims x.arr.attrs=0
 bn:st.batches.length≤900000
 pb:∀p∈st.places,0≤p.2.batch∧p.2.batch≤st.batches.length
 u0:0≤st.use
 u1:st.use≤1000000
set_option maxHeartbeats 2000000 in
theorem sPut_ok{M Mc F Fd:List Nat}{w:World}{s l d:Nat}{num:Int}{nxt:Nat}{st:Sto}{k:Dk}{b:Bt}{ca:Option Addr}{cn cc:Nat}(h:SysAt M w s l d num nxt st k F Fd)(hc:R (tSl tCell) (F++Fd++Mc) w b.changes [.slice ca cn cc])
 (hb:StoB st)(hn2:2≤k.n)(hnum:0≤num)(hadd:st.checkE b=0→st.use+b.weight≤k.half→AddOk k num nxt 2 (encB st.arrays b)):
 Calls Tryz.prog 13 #[.pointer (some ⟨s,0,none⟩),.agg #[.string b.token,.int .i64 b.stamp,.string b.array,.slice ca cn cc]] w fun e w'=>e=.returned (.tuple #[.bool (st.put k num nxt b).ok,.int .i64 (st.put k num nxt b).e])∧
  ∃F' Fd',SysAt M w' s l d num (st.put k num nxt b).nxt (st.put k num nxt b).st (st.put k num nxt b).k F' Fd'∧Own (F++Fd) w (F'++Fd') w':=by
 have hmx:maxSl=140737488355328:=rfl
 obtain⟨rfl,hcn1,hcn2⟩:=hc.sl_len
 have e0:st.put k num nxt b=st.put k num nxt b:=rfl
 conv at e0=>rhs;unfold Sto.put
 have hdm:∀x∈st.arrays,(dimsE [] x.arr.dims).1=0:=fun x hx=>(sch_dims (hb.sch x hx)).1
 have same:∀{r:PutR} {w':World},st.put k num nxt b=r→KpL [] w w'→r.st=st→r.k=k→r.nxt=nxt→
  ∃F' Fd',SysAt M w' s l d num r.nxt r.st r.k F' Fd'∧Own (F++Fd) w (F'++Fd') w':=fun _ hk h1 h2 h3=>⟨F,Fd,by rw[h1,h2,h3];exact h.kp0 hk,Own.of0 hk⟩
 refine sPut_vc fun k1 hk1 w1 hw1 hkn1=>⟨(ready_ok (h.kp0 hw1).sto (h.kp0 hw1).dk).mono ?_⟩
 rintro e w2 ⟨rfl,hw2⟩
 have hk02:=hw1.trans hw2
 refine⟨_,rfl,hw2,fun hr _=>?_,fun hr hkn2=>⟨(sCheck_ok (h.kp0 hk02).sto (hc.kp0 hk02) hdm).mono ?_⟩⟩
 ·rw[if_pos hr]at e0;rw[e0];exact⟨rfl,same e0 (hk02) rfl rfl rfl⟩
 rw[if_neg hr]at e0
 rintro e w3 ⟨rfl,hw3⟩
 have hk03:=hk02.trans hw3
 refine⟨_,rfl,hw3,fun hr _=>?_,fun hch hkn3=>?_⟩
 ·rw[if_pos hr]at e0;rw[e0];exact⟨rfl,same e0 (hk03) rfl rfl rfl⟩
 rw[if_neg hch]at e0
 have h3:=h.kp0 hk03
 obtain⟨m,ra,rn,rc,qa,qn,qc,hI,hl,hF⟩:=h3.sto
 have ld:∀{w':World} (i:Nat) (v:Value),KpL [] w3 w'→(#[Value.pointer (some ⟨l,0,none⟩),.int .i64 st.id,.slice ra rn rc,.map (some m),.slice qa qn qc,.int .i64 st.use]:Array Value).toList[i]?=some v→LdA w' ((⟨s,0,none⟩:Addr).add i) [v]:=by
  intro w' i v hk hv
  rw[add_lit]
  refine ldA_blk ((hk.blk s (block_lt hI.hs) (by simp)).trans hI.hs) _ _ ?_
  apply List.ext_getElem?
  intro j
  cases j with
  |zero=>simp at hv ⊢;exact hv
  |succ j=>simp;omega
 refine⟨qa,qn,qc,ld 4 _ (KpL.refl _ _) rfl,fun hkn3'=>⟨(contains47_ok (hI.bat.done (by have:=hI.bat.len;have:=hb.bn;omega)) (putF_pred hkn3)).mono ?_⟩⟩
 rintro e w4 ⟨rfl,hw4⟩
 have hk04:=hk03.trans hw4
 refine⟨_,rfl,hw4,fun hr _=>?_,fun hr=>?_⟩
 ·rw[if_pos hr]at e0;rw[e0];exact⟨rfl,same e0 (hk04) rfl rfl rfl⟩
 rw[if_neg (by simp[hr])]at e0
 refine⟨_,ld 5 _ hw4 rfl,_,ld 0 _ hw4 rfl,_,rfl,_,ldA_blk ((hw4.blk l (block_lt hl) (by simp)).trans hl) 0 _ rfl,fun w5 hw5 hkn5=>⟨(weight_ok w5 b.token b.array b.stamp ca b.changes.length cc (by have:=(checkE_ok (Classical.not_not.1 hch)).c2;omega)).mono ?_⟩⟩
 have hbo:=checkE_ok (Classical.not_not.1 hch)
 rintro e w6 ⟨rfl,hw6⟩
 have hc2:=hbo.c2
 have hu0:=hb.u0
 have hu1:=hb.u1
 have hk06:=(hk04.trans hw5).trans hw6
 obtain⟨ss,hs1,hs2,hs3⟩:=h.dk.ok.secs
 refine⟨_,rfl,hw6,ini_i64.2 (by omega),fun hkn6=>⟨(dHalf_ok (h.kp0 hk06).dk (by unfold Dk.secs;omega)).mono ?_⟩⟩
 rintro e w7 ⟨rfl,hw7⟩
 have hk37:=((hw4.trans hw5).trans hw6).trans hw7
 have hk07:=hk03.trans hk37
 have hwt:b.weight=2+3*(b.changes.length:Int):=rfl
 refine⟨_,rfl,hw7,fun hr2 _=>?_,fun hr2=>⟨_,ld 0 _ hk37 rfl,fun w8 hw8 hkn8=>?_⟩⟩
 ·rw[if_pos (by omega)]at e0;rw[e0];exact⟨rfl,same e0 (hk07) rfl rfl rfl⟩
 rw[if_neg (by omega)]at e0
 have hadd:=hadd (Classical.not_not.1 hch) (by omega)
 have hk08:=hk07.trans hw8
 have h8:=h.kp0 hk08
 obtain⟨x,hx,hall⟩:=hbo.arr
 have hxm:x∈st.arrays:=List.mem_of_getElem? hx
 have hxs:=sch_dims (hb.sch x hxm)
 have hd14:=dims_14 hxs.1
 have hchg:=fun c hcm=>change_len (hb.sch x hxm) (hall c hcm)
 have htk:=(nameOk_12 hbo.tok).2
 have hs0:=hbo.s0
 have hs1':=hbo.s1
 have hst:InI .i64 b.stamp:=ini_i64.2 (by omega)
 refine⟨(sBytes_ok (N:=l::Fd) (fun y hy=>?_) (h8.sto.weak (by simp)) (hc.kp0 hk08) (by omega) hst (by omega) (fun c hcm=>⟨by have:=(hchg c hcm).1;omega,by have:=(hchg c hcm).2.2.1;omega⟩)).mono ?_⟩
 ·rcases List.mem_cons.1 hy with rfl|hy
  ·exact(h8.sto.own_lt y h8.sto.lF).1
  ·exact(h8.dk.own_lt y hy).1
 rintro e w9 ⟨a5,k4,k5,rfl,hV⟩
 have hk09:=hk08.trans hV.kpn
 have h9:=h8.kp0 hV.kpn
 have hlb:=encB_len hb.sch hb.an hbo
 have hlV:=hV.acc.len
 have hRb:=hV.acc.done (by omega)
 have hl9:LogAt w9 l d num nxt:=h9.sto.log
 refine⟨_,_,_,rfl,hV.kpn,fun hkn9=>⟨(lAdd_ok h9.dk hl9 (List.mem_append_left _ h9.sto.lF) hRb (ini_u8.2 (by omega)) hadd.n2 hnum hadd.fit hadd.pl hadd.ps hadd.ps2).mono ?_⟩⟩
 rintro e w10 ⟨rfl,hT⟩
 have hl10:=h9.own_lt
 have hk1F:k1∉F++Fd:=fun hm=>by have:=(h.own_lt k1 hm).1;omega
 obtain⟨Fd1,h10,hO10⟩:=h9.logTo hT
 have hO0:Own (F++Fd) w (F++Fd1) w10:=(Own.of0 hk09).trans hO10
 refine⟨_,rfl,_,hO10.kp,⟨hk1F⟩,fun hkn10=>⟨(lost_ok h10.sto _).mono ?_⟩⟩
 rintro e w11 ⟨rfl,hS11,hO11⟩
 obtain⟨h11,hO11'⟩:=h10.stoTo hS11 hO11
 have hO0':=hO0.trans hO11'
 refine⟨_,rfl,_,hO11.kp,⟨fun hm=>hk1F (List.mem_append_left _ hm)⟩,fun hne _=>?_,fun hz hkn11=>?_⟩
 ·rw[if_pos hne]at e0
  rw[e0]
  rw[if_neg hne,if_pos hne]at h11
  exact⟨rfl,F,Fd1,h11,hO0'⟩
 have hz':=Classical.not_not.1 hz
 rw[if_neg hz]at e0
 rw[if_pos hz',if_neg hz]at h11
 have hc11:R (tSl tCell) (F++(Fd1++Mc)) w11 b.changes [.slice ca b.changes.length cc]:=by
  have:=hO0'.data hc
  rwa [List.append_assoc]at this
 refine⟨(sCommit_ok h11.sto hc11 (by omega) hst (by omega) (fun c hcm=>⟨(hchg c hcm).1,by have:=(hchg c hcm).2.1;omega⟩) hb.bn hb.pb (ini_i64.2 (by have:=hbo.k0;have:=findA_lt st.arrays b.array;have:=hb.an;omega)) ⟨hu0,hu1⟩).mono ?_⟩
 rintro e w12 ⟨rfl,F',hS12,hO12⟩
 obtain⟨h12,hO12'⟩:=h11.stoTo hS12 hO12
 refine⟨rfl,_,hO12.kp,⟨fun hm=>hk1F (List.mem_append_left _ hm)⟩,fun _=>?_⟩
 rw[e0]
 exact⟨rfl,F',Fd1,h12,hO0'.trans hO12'⟩
end Go.Vc
namespace Go.Vc
open Go Go.Proofs
structure PlOk (arrays:List Nm) (nb:Nat) (p:Pl×Sta):Prop where
 a0:0≤p.1.a
 ex:∃x,arrays[p.1.a.toNat]?=some x∧(∃at_,at_.length=x.arr.dims.length∧ofB x.arr.dims at_=true∧p.1=plOf p.1.a at_)∧fitsL x.arr.attrs p.2.vals=true∧(p.2.vals=[]∨p.2.vals.length=x.arr.attrs.length)
 b0:0≤p.2.batch
 b1:p.2.batch≤nb
structure StoV (st:Sto):Prop where
 a1:1≤st.arrays.length
 an:st.arrays.length≤16
 nms:∀x∈st.arrays,nameOk x.name=true
 nd:(st.arrays.map (·.name)).Nodup
 sch:∀x∈st.arrays,schemaE x.arr.dims x.arr.attrs=0
 cel:∀x∈st.arrays,x.arr.cells=[]
 bn:st.batches.length≤1000
 bat:∀x∈st.batches,nameOk x.token=true∧0≤x.stamp∧x.stamp≤1099511627776
 toks:(st.batches.map (·.token)).Nodup
 pn:st.places.length≤4000
 pls:∀p∈st.places,PlOk st.arrays st.batches.length p
 keys:(st.places.map (·.1)).Nodup
 u0:0≤st.use
 u1:st.use≤100000
theorem flat_ge{α:Type}{f:α→List Int}:∀{l:List α},(∀x∈l,1≤(f x).length)→l.length≤(l.flatMap f).length
 |[],_=>by simp
 |x::r,h=>by
  have h1:=h x (by simp)
  have h2:=flat_ge (l:=r) fun y hy=>h y (by simp[hy])
  simp only[List.flatMap_cons,List.length_append,List.length_cons]
  omega
theorem encN_pos(f n:Nat):1≤(encN (f+1) n).length:=by unfold encN;split<;>simp
theorem encU_pos(n:Int):1≤(encU n).length:=encN_pos 9 _
theorem encS_pos(s:ByteArray):1≤(encS s).length:=by have:=encU_pos s.size;unfold encS;rw[List.length_append];omega
theorem PlOk.dims{arrays:List Nm}{nb:Nat}{p:Pl×Sta}(h:PlOk arrays nb p)(hs:∀x∈arrays,schemaE x.arr.dims x.arr.attrs=0):p.1.a.toNat<arrays.length∧1≤ndims arrays p.1.a∧ndims arrays p.1.a≤4∧(p.1.co.take (ndims arrays p.1.a)).length=ndims arrays p.1.a∧
 (∀x∈p.1.co.take (ndims arrays p.1.a),-1073741824≤x∧x≤1073741824)∧plOf p.1.a (p.1.co.take (ndims arrays p.1.a))=p.1∧p.2.vals.length≤6∧∀v∈p.2.vals,v.right=true:=by
 obtain⟨h0,⟨x,hx,⟨at_,h1,h2,h3⟩,h4,h5⟩,_,_⟩:=h
 have hs1:=sch_dims (hs x (List.mem_of_getElem? hx))
 have hd:=dims_14 hs1.1
 have hn:ndims arrays p.1.a=x.arr.dims.length:=by unfold ndims;rw[hx]
 have hl:p.1.a.toNat<arrays.length:=by
  rw[List.getElem?_eq_some_iff]at hx
  exact hx.1
 obtain⟨f1,f2⟩:=fits_len h4
 have hco:p.1.co.take (ndims arrays p.1.a)=at_:=by
  have e2:p.1.co=(plOf p.1.a at_).co:=congrArg Pl.co h3
  rw[hn,←h1,e2]
  unfold Pl.co plOf
  match at_,(by omega:1≤at_.length∧at_.length≤4) with
  |[a],_=>rfl
  |[a,b],_=>rfl
  |[a,b,c],_=>rfl
  |[a,b,c,d],_=>rfl
  |_::_::_::_::_::_,h=>simp at h
 rw[hco]
 refine⟨hl,by omega,by omega,by omega,ofB_in h2 (fun d hdm=>(dims_in hs1.1 d hdm).2.1) h1,h3.symm,by omega,f2⟩
end Go.Vc
namespace Go.Vc
open Go Go.Proofs
theorem arrayR_ok{N:List Nat}{w:World}{s r T:Nat}{cs:List Value}{a1:Option Addr}{n1 c1:Nat}{x:Int}{rest:List Int}(hs:w.heap[s]?=some (.cells cs.toArray T (0,0)))(hc:cs[2]?=some (.slice a1 n1 c1))(hsr:s≠r)(h:RdAt N w r (encU x++rest))(h0:0≤x)(h1:x<n1)(h2:n1≤1000):
 Calls Tryz.prog 129 #[.pointer (some ⟨s,0,none⟩),.pointer (some ⟨r,0,none⟩)] w fun e w'=>e=.returned (.int .i64 x)∧KpL [r] w w'∧RdAt N w' r rest:=by
 have ld:∀{w':World},KpL [r] w w'→LdA w' ((⟨s,0,none⟩:Addr).add 2) [.slice a1 n1 c1]:=by
  intro w' hk
  rw[add_lit]
  have hh:=(hk.blk s (block_lt hs) (by simpa using hsr)).trans hs
  refine ldA_blk (cs:=cs) hh 2 _ ?_
  apply List.ext_getElem?
  intro j
  cases j with
  |zero=>rw[List.getElem?_take,List.getElem?_drop];simpa using hc
  |succ j=>simp;omega
 refine arrayR_vc ⟨_,_,_,ld (KpL.refl _ _),ini_i64.2 (by omega),fun w1 hw1=>⟨(rNumber_ok (h.kp0 hw1) h0 (by omega)).mono ?_⟩⟩
 rintro e w2 ⟨rfl,hw2,hD⟩
 have hk:=(hw1.mono (by simp)).trans hw2
 refine⟨_,rfl,_,hw2,⟨ld hk,trivial⟩,x,?_,?_,hk,hD⟩
 ·have:=pv_min (P:=Tryz.prog) (k:=.u64) (x:=x) (y:=IntKind.u64.wrap ((n1:Int) - 1)) (at_:=#[119,119]) (ty:=119)
  rw[wrap_in (ini_u64.2 (by omega)),show min x ((n1:Int) - 1)=x from by omega]at this
  rw[wrap_in (ini_u64.2 (by omega))]
  exact this
 ·rw[wrap_in (ini_i64.2 (by omega))]
set_option maxHeartbeats 1000000 in
theorem atR_ok{M N Mx:List Nat}{w:World}{s r T:Nat}{cs:List Value}{a1:Option Addr}{n1 c1:Nat}{arrays:List Nm}{x:Int}{l rest:List Int}{nm:Nm}(hs:w.heap[s]?=some (.cells cs.toArray T (0,0)))(hc:cs[2]?=some (.slice a1 n1 c1))(hsr:s≠r)
 (hR:R (tSl tNm) Mx w arrays [.slice a1 n1 c1])(hrx:r∈Mx)(hM:∀b∈M,b<w.heap.size)(hrM:r∈M)(h:RdAt N w r (encAt l++rest))(h0:0≤x)(hx:arrays[x.toNat]?=some nm)(hl:l.length=nm.arr.dims.length)(hn:l.length≤4)(hb:∀y∈l,-1073741824≤y∧y≤1073741824):
 Calls Tryz.prog 130 #[.pointer (some ⟨s,0,none⟩),.pointer (some ⟨r,0,none⟩),.int .i64 x] w fun e w'=>∃a n c,e=.returned (.slice a n c)∧KpL [r] w w'∧RdAt (blkL a++N) w' r rest∧Acc (tI .i64) M w' l a n c∧∀b∈blkL a,w.heap.size≤b:=by
 have hxl:x.toNat<arrays.length:=by rw[List.getElem?_eq_some_iff]at hx;exact hx.1
 obtain⟨rfl,_,_⟩:=hR.sl_len
 obtain⟨ad,cs',rfl,hv1,_,hadN,_,hpt⟩:=hR.sl_get2 hxl
 have hxe:arrays[x.toNat]=nm:=by rw[List.getElem?_eq_getElem hxl]at hx;exact Option.some.inj hx
 rw[hxe]at hv1
 obtain⟨b1,p1,q1,b2,p2,q2,b3,p3,q3,rfl,_,hx1,_,_⟩:=hv1.nm
 obtain⟨hp1,_,_⟩:=hx1.sl_len
 have e2:∀{w':World},((ad.add (x.toNat*4)).add 1).add 0=(ad.add (x.toNat*4)).add 1:=fun {_}=>by rw[addr0]
 have ldd:LdA w (((ad.add (x.toNat*4)).add 1).add 0) [.slice b1 p1 q1]:=by rw[e2 (w':=w)];exact hpt 1 [_] rfl
 have ld:LdA w ((⟨s,0,none⟩:Addr).add 2) [.slice (some ad) arrays.length c1]:=by
  rw[add_lit]
  refine ldA_blk (cs:=cs) hs 2 _ ?_
  apply List.ext_getElem?
  intro j
  cases j with
  |zero=>rw[List.getElem?_take,List.getElem?_drop];simpa using hc
  |succ j=>simp;omega
 refine atR_vc ⟨_,_,_,ld,ad,rfl,h0,by omega,b1,p1,q1,ldd,fun vs w'=>∃(i:Nat) (a:Option Addr) (n c:Nat),vs=[.slice a n c,.int .i64 (i:Int)]∧i≤l.length∧KpL [r] w w'∧RdAt (blkL a++N) w' r (encAt (l.drop i)++rest)∧Acc (tI .i64) M w' (l.take i) a n c∧∀b∈blkL a,w.heap.size≤b,
  fun vs _=>match vs with|[_,.int _ i]=>l.length - i.toNat|_=>0,⟨0,none,0,0,rfl,by omega,KpL.refl _ _,h,Acc.nil' _ hM,by simp[blkL]⟩,?_⟩
 rintro a n c n2 w2 ⟨i,_,_,_,hv,hi,hk2,hD2,hA,hnew⟩
 simp only[List.cons.injEq,Value.int.injEq,Value.slice.injEq,true_and,and_true]at hv
 obtain⟨⟨rfl,rfl,rfl⟩,rfl⟩:=hv
 constructor
 ·intro hlt
  have gi:i<l.length:=by omega
  have hlA:=hA.len
  rw[List.length_take,Nat.min_eq_left hi]at hlA
  rw[List.drop_eq_getElem_cons gi]at hD2
  have hd1:RdAt (blkL a++N) w2 r (encU (zig l[i])++(encAt (l.drop (i+1))++rest)):=by
   have e:encAt (l[i]::l.drop (i+1))++rest=encU (zig l[i])++(encAt (l.drop (i+1))++rest):=by unfold encAt;rw[List.flatMap_cons,List.append_assoc]
   rw[←e];exact hD2
  have hbi:=hb l[i] (List.getElem_mem gi)
  have htk:=List.take_append_getElem gi
  generalize l[i]=v at *
  refine⟨(rSigned_ok hd1 (by omega) (by omega)).mono ?_⟩
  rintro e w3 ⟨rfl,hw3,hD3⟩
  refine⟨_,rfl,_,hw3,fun k7 hk7 w4 hw4 hkn4=>?_⟩
  have hA4:=(hA.kp hw3 (by simpa using hrM)).kp0 hw4
  have s23:=hw3.size
  refine ev_append1 apI hA4 hkn4 (R.int (ini_i64.2 (by omega))) (by omega) fun a' c' w5 hC=>⟨_,_,_,rfl,_,hC.kp,⟨fun hm=>by have:=(hA.blk_lt _ hm).1;omega⟩,ini_i64.2 (by omega),fun _=>⟨⟨i+1,a',n+1,c',rfl,by omega,?_,?_,?_,?_⟩,by dsimp only;omega⟩⟩
  ·exact((hk2.trans hw3).trans (hw4.mono (by simp))).more hC.kp fun x hx=>.inr (hnew x hx)
  ·refine(hD3.kp0 hw4).step hC.kp (fun hm=>(hA.blk_lt r hm).2 hrM) (fun x hx=>.inl (by simp[hx])) fun x hx=>?_
   rcases List.mem_append.1 hx with hx|hx
   ·exact(hC.own x hx).imp (fun h=>by simp[h]) id
   ·exact .inl (by simp[hx])
  ·rw[←htk];exact hC.acc
  ·intro x hx
   rcases hC.own x hx with hx|hx
   ·exact hnew x hx
   ·have:=hk2.size;have:=hw4.size;omega
 ·intro hge
  have hie:i=l.length:=by omega
  subst hie
  rw[List.take_length]at hA
  rw[List.drop_length]at hD2
  exact⟨a,n,c,rfl,hk2,hD2,hA,hnew⟩
end Go.Vc
namespace Go.Vc
open Go Go.Proofs
open Go.Value Go.Ending Go.IntKind
set_option maxRecDepth 100000
theorem sRead_vc{s:Nat}{r:Nat}{w:World}{R:Ending→World→Prop}
 (h :
 CallW Tryz.prog 125 #[pointer (some (Addr.mk r 0 none))] w fun e1 w1 =>
 ∃n1,e1=returned (int i64 n1)∧
 ∃l1,KpL l1 w w1∧
 ∃(P1:List Value→World→Prop) (P2:List Value→World→Nat),P1 [int i64 0] w1∧
 ∀n2 w2,P1 [int i64 n2] w2→
 (n2<n1→
 CallW Tryz.prog 126 #[pointer (some (Addr.mk r 0 none))] w2 fun e2 w3 =>
 ∃s1,e2=returned (string s1)∧
 ∃l2,KpL l2 w2 w3∧
 ∀k1,w3.heap.size≤k1→
 ∀w4,KpL [] w3 w4→
 Hb w4 k1 #[string s1,slice none 0 0,slice none 0 0,slice none 0 0] 60→
 CallW Tryz.prog 125 #[pointer (some (Addr.mk r 0 none))] w4 fun e3 w5 =>
 ∃n3,e3=returned (int i64 n3)∧
 ∃l3,KpL l3 w4 w5∧
 NotIn k1 l3∧
 ∃(P3:List Value→World→Prop) (P4:List Value→World→Nat),(Hb w5 k1 #[string s1,slice none 0 0,slice none 0 0,slice none 0 0] 60→
 P3 [int i64 0,string s1,slice none 0 0,slice none 0 0,slice none 0 0] w5)∧
 ∀n4 s2 a1 k2 k3 a2 k4 k5 a3 k6 k7 w6,Hb w6 k1 #[string s2,slice a1 k2 k3,slice a2 k4 k5,slice a3 k6 k7] 60→
 P3 [int i64 n4,string s2,slice a1 k2 k3,slice a2 k4 k5,slice a3 k6 k7] w6→
 (n4<n3→
 ∀w7,KpL [] w6 w7→
 Hb w7 k1 #[string s2,slice a1 k2 k3,slice a2 k4 k5,slice a3 k6 k7] 60→
 CallW Tryz.prog 126 #[pointer (some (Addr.mk r 0 none))] w7 fun e4 w8 =>
 ∃s3,e4=returned (string s3)∧
 ∃l4,KpL l4 w7 w8∧
 NotIn k1 l4∧
 (Hb w8 k1 #[string s2,slice a1 k2 k3,slice a2 k4 k5,slice a3 k6 k7] 60→
 (LdA w8 (Addr.mk k1 (0+1+0) none) [slice a1 k2 k3]∧
 True)∧
 (Hb w8 k1 #[string s2,slice a1 k2 k3,slice a2 k4 k5,slice a3 k6 k7] 60→
 CallW Tryz.prog 127 #[pointer (some (Addr.mk r 0 none))] w8 fun e5 w9 =>
 ∃n5,e5=returned (int i64 n5)∧
 ∃l5,KpL l5 w8 w9∧
 NotIn k1 l5∧
 (Hb w9 k1 #[string s2,slice a1 k2 k3,slice a2 k4 k5,slice a3 k6 k7] 60→
 (LdA w9 (Addr.mk k1 (0+1+0) none) [slice a1 k2 k3]∧
 True)∧
 (Hb w9 k1 #[string s2,slice a1 k2 k3,slice a2 k4 k5,slice a3 k6 k7] 60→
 CallW Tryz.prog 127 #[pointer (some (Addr.mk r 0 none))] w9 fun e6 w10 =>
 ∃n6,e6=returned (int i64 n6)∧
 ∃l6,KpL l6 w9 w10∧
 NotIn k1 l6∧
 (Hb w10 k1 #[string s2,slice a1 k2 k3,slice a2 k4 k5,slice a3 k6 k7] 60→
 (LdA w10 (Addr.mk k1 (0+1+0) none) [slice a1 k2 k3]∧
 True)∧
 ∀k8,w10.heap.size≤k8→
 ∀w11,KpL [] w10 w11→
 Hb w11 k8 #[string s3,int i64 n5,int i64 n6] 153∧
 Hb w11 k1 #[string s2,slice a1 k2 k3,slice a2 k4 k5,slice a3 k6 k7] 60→
 Ev Tryz.prog (Builtin.append_ #[54,54] 54 #[slice a1 k2 k3,slice (some (Addr.mk k8 0 none)) 1 1]) w11 fun y1 w12 =>
 ∃a4 k9 k10,y1=slice a4 k9 k10∧
 ∃l7,KpL l7 w11 w12∧
 (NotIn k8 l7∧
 NotIn k1 l7)∧
 InI i64 (n4+1)∧
 ∀w13,KpL [k1] w12 w13→
 Hb w13 k8 #[string s3,int i64 n5,int i64 n6] 153∧
 Hb w13 k1 #[string s2,slice a4 k9 k10,slice a2 k4 k5,slice a3 k6 k7] 60→
 P3 [int i64 (n4+1),string s2,slice a4 k9 k10,slice a2 k4 k5,slice a3 k6 k7] w13∧
 P4 [int i64 (n4+1),string s2,slice a4 k9 k10,slice a2 k4 k5,slice a3 k6 k7] w13<P4 [int i64 n4,string s2,slice a1 k2 k3,slice a2 k4 k5,slice a3 k6 k7] w6))))))∧
 (¬n4<n3→
 Hb w6 k1 #[string s2,slice a1 k2 k3,slice a2 k4 k5,slice a3 k6 k7] 60→
 CallW Tryz.prog 125 #[pointer (some (Addr.mk r 0 none))] w6 fun e7 w14 =>
 ∃n7,e7=returned (int i64 n7)∧
 ∃l8,KpL l8 w6 w14∧
 NotIn k1 l8∧
 ∃(P5:List Value→World→Prop) (P6:List Value→World→Nat),(Hb w14 k1 #[string s2,slice a1 k2 k3,slice a2 k4 k5,slice a3 k6 k7] 60→
 P5 [int i64 0,string s2,slice a1 k2 k3,slice a2 k4 k5,slice a3 k6 k7] w14)∧
 ∀n8 s4 a5 k11 k12 a6 k13 k14 a7 k15 k16 w15,Hb w15 k1 #[string s4,slice a5 k11 k12,slice a6 k13 k14,slice a7 k15 k16] 60→
 P5 [int i64 n8,string s4,slice a5 k11 k12,slice a6 k13 k14,slice a7 k15 k16] w15→
 (n8<n7→
 ∀w16,KpL [] w15 w16→
 Hb w16 k1 #[string s4,slice a5 k11 k12,slice a6 k13 k14,slice a7 k15 k16] 60→
 CallW Tryz.prog 126 #[pointer (some (Addr.mk r 0 none))] w16 fun e8 w17 =>
 ∃s5,e8=returned (string s5)∧
 ∃l9,KpL l9 w16 w17∧
 NotIn k1 l9∧
 (Hb w17 k1 #[string s4,slice a5 k11 k12,slice a6 k13 k14,slice a7 k15 k16] 60→
 (LdA w17 (Addr.mk k1 (0+1+1) none) [slice a6 k13 k14]∧
 True)∧
 (Hb w17 k1 #[string s4,slice a5 k11 k12,slice a6 k13 k14,slice a7 k15 k16] 60→
 CallW Tryz.prog 128 #[pointer (some (Addr.mk r 0 none))] w17 fun e9 w18 =>
 ∃n9,e9=returned (int u8 n9)∧
 ∃l10,KpL l10 w17 w18∧
 NotIn k1 l10∧
 (Hb w18 k1 #[string s4,slice a5 k11 k12,slice a6 k13 k14,slice a7 k15 k16] 60→
 (LdA w18 (Addr.mk k1 (0+1+1) none) [slice a6 k13 k14]∧
 True)∧
 InI i64 n9∧
 ∀k17,w18.heap.size≤k17→
 ∀w19,KpL [] w18 w19→
 Hb w19 k17 #[string s5,int i64 n9] 156∧
 Hb w19 k1 #[string s4,slice a5 k11 k12,slice a6 k13 k14,slice a7 k15 k16] 60→
 Ev Tryz.prog (Builtin.append_ #[55,55] 55 #[slice a6 k13 k14,slice (some (Addr.mk k17 0 none)) 1 1]) w19 fun y2 w20 =>
 ∃a8 k18 k19,y2=slice a8 k18 k19∧
 ∃l11,KpL l11 w19 w20∧
 (NotIn k17 l11∧
 NotIn k1 l11)∧
 InI i64 (n8+1)∧
 ∀w21,KpL [k1] w20 w21→
 Hb w21 k17 #[string s5,int i64 n9] 156∧
 Hb w21 k1 #[string s4,slice a5 k11 k12,slice a8 k18 k19,slice a7 k15 k16] 60→
 P5 [int i64 (n8+1),string s4,slice a5 k11 k12,slice a8 k18 k19,slice a7 k15 k16] w21∧
 P6 [int i64 (n8+1),string s4,slice a5 k11 k12,slice a8 k18 k19,slice a7 k15 k16] w21<P6 [int i64 n8,string s4,slice a5 k11 k12,slice a6 k13 k14,slice a7 k15 k16] w15))))∧
 (¬n8<n7→
 ∃a9 k20 k21,LdA w15 ((Addr.mk s 0 none).add 2) [slice a9 k20 k21]∧
 ∀k22,w15.heap.size≤k22→
 ∀w22,KpL [] w15 w22→
 Hb w22 k22 #[string s4,slice a5 k11 k12,slice a6 k13 k14,slice a7 k15 k16] 60∧
 Hb w22 k1 #[string s4,slice a5 k11 k12,slice a6 k13 k14,slice a7 k15 k16] 60→
 Ev Tryz.prog (Builtin.append_ #[23,23] 23 #[slice a9 k20 k21,slice (some (Addr.mk k22 0 none)) 1 1]) w22 fun y3 w23 =>
 ∃a10 k23 k24,y3=slice a10 k23 k24∧
 ∃l12,KpL l12 w22 w23∧
 (NotIn k22 l12∧
 NotIn k1 l12)∧
 (Hb w23 k22 #[string s4,slice a5 k11 k12,slice a6 k13 k14,slice a7 k15 k16] 60∧
 Hb w23 k1 #[string s4,slice a5 k11 k12,slice a6 k13 k14,slice a7 k15 k16] 60→
 (∃l13,LdA w23 ((Addr.mk s 0 none).add 2) l13∧
 l13.length=1)∧
 NotFrozen w23 ((Addr.mk s 0 none).add 2) 1∧
 (NotIn k22 [s]∧
 NotIn k1 [s])∧
 ∀w24,w24=stA w23 ((Addr.mk s 0 none).add 2) [slice a10 k23 k24] 0→
 InI i64 (n2+1)∧
 (Hb w24 k22 #[string s4,slice a5 k11 k12,slice a6 k13 k14,slice a7 k15 k16] 60∧
 Hb w24 k1 #[string s4,slice a5 k11 k12,slice a6 k13 k14,slice a7 k15 k16] 60→
 P1 [int i64 (n2+1)] w24∧
 P2 [int i64 (n2+1)] w24<P2 [int i64 n2] w2)))))∧
 (¬n2<n1→
 CallW Tryz.prog 125 #[pointer (some (Addr.mk r 0 none))] w2 fun e10 w25 =>
 ∃n10,e10=returned (int i64 n10)∧
 ∃l14,KpL l14 w2 w25∧
 ∃(P7:List Value→World→Prop) (P8:List Value→World→Nat),P7 [int i64 0] w25∧
 ∀n11 w26,P7 [int i64 n11] w26→
 (n11<n10→
 ∃a11 k25 k26,LdA w26 ((Addr.mk s 0 none).add 4) [slice a11 k25 k26]∧
 ∀w27,KpL [] w26 w27→
 CallW Tryz.prog 126 #[pointer (some (Addr.mk r 0 none))] w27 fun e11 w28 =>
 ∃s6,e11=returned (string s6)∧
 ∃l15,KpL l15 w27 w28∧
 (LdA w28 ((Addr.mk s 0 none).add 4) [slice a11 k25 k26]∧
 True)∧
 CallW Tryz.prog 127 #[pointer (some (Addr.mk r 0 none))] w28 fun e12 w29 =>
 ∃n12,e12=returned (int i64 n12)∧
 ∃l16,KpL l16 w28 w29∧
 (LdA w29 ((Addr.mk s 0 none).add 4) [slice a11 k25 k26]∧
 True)∧
 ∀k27,w29.heap.size≤k27→
 ∀w30,KpL [] w29 w30→
 Hb w30 k27 #[string s6,int i64 n12] 112→
 Ev Tryz.prog (Builtin.append_ #[110,110] 110 #[slice a11 k25 k26,slice (some (Addr.mk k27 0 none)) 1 1]) w30 fun y4 w31 =>
 ∃a12 k28 k29,y4=slice a12 k28 k29∧
 ∃l17,KpL l17 w30 w31∧
 NotIn k27 l17∧
 (Hb w31 k27 #[string s6,int i64 n12] 112→
 (∃l18,LdA w31 ((Addr.mk s 0 none).add 4) l18∧
 l18.length=1)∧
 NotFrozen w31 ((Addr.mk s 0 none).add 4) 1∧
 NotIn k27 [s]∧
 ∀w32,w32=stA w31 ((Addr.mk s 0 none).add 4) [slice a12 k28 k29] 0→
 InI i64 (n11+1)∧
 (Hb w32 k27 #[string s6,int i64 n12] 112→
 P7 [int i64 (n11+1)] w32∧
 P8 [int i64 (n11+1)] w32<P8 [int i64 n11] w26)))∧
 (¬n11<n10→
 Ev Tryz.prog (Instr.makeMap 114 none) w26 fun y5 w33 =>
 ∃m1,y5=map m1∧
 ∃l19,KpL l19 w26 w33∧
 (∃l20,LdA w33 ((Addr.mk s 0 none).add 3) l20∧
 l20.length=1)∧
 NotFrozen w33 ((Addr.mk s 0 none).add 3) 1∧
 ∀w34,w34=stA w33 ((Addr.mk s 0 none).add 3) [map m1] 0→
 CallW Tryz.prog 125 #[pointer (some (Addr.mk r 0 none))] w34 fun e13 w35 =>
 ∃n13,e13=returned (int i64 n13)∧
 ∃l21,KpL l21 w34 w35∧
 ∃(P9:List Value→World→Prop) (P10:List Value→World→Nat),P9 [int i64 0] w35∧
 ∀n14 w36,P9 [int i64 n14] w36→
 (n14<n13→
 CallW Tryz.prog 129 #[pointer (some (Addr.mk s 0 none)),pointer (some (Addr.mk r 0 none))] w36 fun e14 w37 =>
 ∃n15,e14=returned (int i64 n15)∧
 ∃l22,KpL l22 w36 w37∧
 CallW Tryz.prog 130 #[pointer (some (Addr.mk s 0 none)),pointer (some (Addr.mk r 0 none)),int i64 n15] w37 fun e15 w38 =>
 ∃a13 k30 k31,e15=returned (slice a13 k30 k31)∧
 ∃l23,KpL l23 w37 w38∧
 ∃m2,LdA w38 ((Addr.mk s 0 none).add 3) [map m2]∧
 ∀w39,KpL [] w38 w39→
 CallW Tryz.prog 78 #[int i64 n15,slice a13 k30 k31] w39 fun e16 w40 =>
 ∃n16 n17 n18 n19 n20,e16=returned (agg #[int i64 n16,int i64 n17,int i64 n18,int i64 n19,int i64 n20])∧
 KpL [] w39 w40∧
 CallW Tryz.prog 131 #[pointer (some (Addr.mk r 0 none))] w40 fun e17 w41 =>
 ∃n21,e17=returned (int u64 n21)∧
 ∃l24,KpL l24 w40 w41∧
 (LdA w41 ((Addr.mk s 0 none).add 3) [map m2]∧
 True)∧
 CallW Tryz.prog 132 #[pointer (some (Addr.mk r 0 none))] w41 fun e18 w42 =>
 ∃a14 k32 k33,e18=returned (slice a14 k32 k33)∧
 ∃l25,KpL l25 w41 w42∧
 (LdA w42 ((Addr.mk s 0 none).add 3) [map m2]∧
 True)∧
 Ev Tryz.prog (do
 Instr.mapUpdate 114 (map m2) (agg #[int i64 n16,int i64 n17,int i64 n18,int i64 n19,int i64 n20]) (agg #[int i64 (i64.wrap n21),slice a14 k32 k33])
 pure undef) w42 fun y6 w43 =>
 y6=tuple #[]∧
 ∃l26,KpL l26 w42 w43∧
 InI i64 (n14+1)∧
 P9 [int i64 (n14+1)] w43∧
 P10 [int i64 (n14+1)] w43<P10 [int i64 n14] w36)∧
 (¬n14<n13→
 CallW Tryz.prog 61 #[pointer (some (Addr.mk s 0 none))] w36 fun e19 w44 =>
 ∃n22,e19=returned (int i64 n22)∧
 KpL [] w36 w44∧
 (∃l27,LdA w44 ((Addr.mk s 0 none).add 5) l27∧
 l27.length=1)∧
 NotFrozen w44 ((Addr.mk s 0 none).add 5) 1∧
 ∀w45,w45=stA w44 ((Addr.mk s 0 none).add 5) [int i64 n22] 0→
 R (returned (tuple #[])) w45)))):Calls Tryz.prog 65 #[pointer (some (Addr.mk s 0 none)),pointer (some (Addr.mk r 0 none))] w R :=
 fnc0 (an:={ loops:=[⟨19,[87],[5,6,88,89,90,91,92,93,94,95,96,97,98,99,100,101,102,103,104,105,106,107,108,109],[]⟩,⟨14,[64],[65,66,67,68,69,70,71,72,73,74,75,76,77,78,79,80],[0]⟩,⟨8,[35],[36,37,38,39,40,41,42,43,44,45,46,47,48,49,50],[4]⟩,⟨4,[16],[17,18,19,20,21,22,23,24,25,26,27,28,29,30,31,32],[4]⟩,⟨1,[9],[4,10,11,12,13,14,15,16,17,18,19,20,21,22,23,24,25,26,27,28,29,30,31,32,33,34,35,36,37,38,39,40,41,42,43,44,45,46,47,48,49,50,51,52,53,54,55,56,57,58,59,60,61],[0]⟩],muts:=[125,126,127,128,129,130,131,132],all:=true }) (args:=[.a (.c (.v (.pointer (some ⟨s,0,none⟩)))),.a (.c (.v (.pointer (some ⟨r,0,none⟩))))]) Tryz_ok Tryz.func65 (by kernel_rfl) rfl rfl h
theorem sBatch_vc{s:Nat}{r:Nat}{w:World}{R:Ending→World→Prop}
 (h :
 ∀k1,w.heap.size≤k1→
 ∀w1,KpL [] w w1→
 Hb w1 k1 #[string (ByteArray.mk #[]),int i64 0,string (ByteArray.mk #[]),slice none 0 0] 48→
 CallW Tryz.prog 126 #[pointer (some (Addr.mk r 0 none))] w1 fun e1 w2 =>
 ∃s1,e1=returned (string s1)∧
 ∃l1,KpL l1 w1 w2∧
 NotIn k1 l1∧
 (Hb w2 k1 #[string (ByteArray.mk #[]),int i64 0,string (ByteArray.mk #[]),slice none 0 0] 48→
 CallW Tryz.prog 127 #[pointer (some (Addr.mk r 0 none))] w2 fun e2 w3 =>
 ∃n1,e2=returned (int i64 n1)∧
 ∃l2,KpL l2 w2 w3∧
 NotIn k1 l2∧
 ∀k2,w3.heap.size≤k2→
 ∀w4,KpL [] w3 w4→
 Hb w4 k2 #[string s1,int i64 n1,string (ByteArray.mk #[]),slice none 0 0] 48∧
 Hb w4 k1 #[string (ByteArray.mk #[]),int i64 0,string (ByteArray.mk #[]),slice none 0 0] 48→
 CallW Tryz.prog 129 #[pointer (some (Addr.mk s 0 none)),pointer (some (Addr.mk r 0 none))] w4 fun e3 w5 =>
 ∃n2,e3=returned (int i64 n2)∧
 ∃l3,KpL l3 w4 w5∧
 (NotIn k2 l3∧
 NotIn k1 l3)∧
 (Hb w5 k2 #[string s1,int i64 n1,string (ByteArray.mk #[]),slice none 0 0] 48∧
 Hb w5 k1 #[string (ByteArray.mk #[]),int i64 0,string (ByteArray.mk #[]),slice none 0 0] 48→
 ∃a1 k3 k4,LdA w5 ((Addr.mk s 0 none).add 2) [slice a1 k3 k4]∧
 ∃d1,a1=some d1∧
 0≤n2∧
 n2<(↑k3:Int)∧
 (Hb w5 k2 #[string s1,int i64 n1,string (ByteArray.mk #[]),slice none 0 0] 48∧
 Hb w5 k1 #[string (ByteArray.mk #[]),int i64 0,string (ByteArray.mk #[]),slice none 0 0] 48→
 ∃s2,LdA w5 ((d1.add (n2.toNat*4)).add 0) [string s2]∧
 ∀w6,KpL [k2] w5 w6→
 Hb w6 k2 #[string s1,int i64 n1,string s2,slice none 0 0] 48∧
 Hb w6 k1 #[string (ByteArray.mk #[]),int i64 0,string (ByteArray.mk #[]),slice none 0 0] 48→
 CallW Tryz.prog 125 #[pointer (some (Addr.mk r 0 none))] w6 fun e4 w7 =>
 ∃n3,e4=returned (int i64 n3)∧
 ∃l4,KpL l4 w6 w7∧
 (NotIn k2 l4∧
 NotIn k1 l4)∧
 ∃(P1:List Value→World→Prop) (P2:List Value→World→Nat),(Hb w7 k2 #[string s1,int i64 n1,string s2,slice none 0 0] 48∧
 Hb w7 k1 #[string (ByteArray.mk #[]),int i64 0,string (ByteArray.mk #[]),slice none 0 0] 48→
 P1 [int i64 0,string s1,int i64 n1,string s2,slice none 0 0] w7)∧
 ∀n4 s3 n5 s4 a2 k5 k6 w8,Hb w8 k2 #[string s3,int i64 n5,string s4,slice a2 k5 k6] 48→
 P1 [int i64 n4,string s3,int i64 n5,string s4,slice a2 k5 k6] w8→
 (n4<n3→
 Hb w8 k2 #[string s3,int i64 n5,string s4,slice a2 k5 k6] 48∧
 Hb w8 k1 #[string (ByteArray.mk #[]),int i64 0,string (ByteArray.mk #[]),slice none 0 0] 48→
 CallW Tryz.prog 130 #[pointer (some (Addr.mk s 0 none)),pointer (some (Addr.mk r 0 none)),int i64 n2] w8 fun e5 w9 =>
 ∃a3 k7 k8,e5=returned (slice a3 k7 k8)∧
 ∃l5,KpL l5 w8 w9∧
 (NotIn k2 l5∧
 NotIn k1 l5)∧
 ∀w10,KpL [] w9 w10→
 Hb w10 k2 #[string s3,int i64 n5,string s4,slice a2 k5 k6] 48∧
 Hb w10 k1 #[string (ByteArray.mk #[]),int i64 0,string (ByteArray.mk #[]),slice none 0 0] 48→
 CallW Tryz.prog 132 #[pointer (some (Addr.mk r 0 none))] w10 fun e6 w11 =>
 ∃a4 k9 k10,e6=returned (slice a4 k9 k10)∧
 ∃l6,KpL l6 w10 w11∧
 (NotIn k2 l6∧
 NotIn k1 l6)∧
 (Hb w11 k2 #[string s3,int i64 n5,string s4,slice a2 k5 k6] 48∧
 Hb w11 k1 #[string (ByteArray.mk #[]),int i64 0,string (ByteArray.mk #[]),slice none 0 0] 48→
 (LdA w11 (Addr.mk k2 (0+3) none) [slice a2 k5 k6]∧
 True)∧
 ∀k11,w11.heap.size≤k11→
 ∀w12,KpL [] w11 w12→
 Hb w12 k11 #[slice a3 k7 k8,slice a4 k9 k10] 81∧
 Hb w12 k2 #[string s3,int i64 n5,string s4,slice a2 k5 k6] 48∧
 Hb w12 k1 #[string (ByteArray.mk #[]),int i64 0,string (ByteArray.mk #[]),slice none 0 0] 48→
 Ev Tryz.prog (Builtin.append_ #[30,30] 30 #[slice a2 k5 k6,slice (some (Addr.mk k11 0 none)) 1 1]) w12 fun y1 w13 =>
 ∃a5 k12 k13,y1=slice a5 k12 k13∧
 ∃l7,KpL l7 w12 w13∧
 (NotIn k11 l7∧
 NotIn k2 l7∧
 NotIn k1 l7)∧
 InI i64 (n4+1)∧
 ∀w14,KpL [k2] w13 w14→
 Hb w14 k11 #[slice a3 k7 k8,slice a4 k9 k10] 81∧
 Hb w14 k2 #[string s3,int i64 n5,string s4,slice a5 k12 k13] 48∧
 Hb w14 k1 #[string (ByteArray.mk #[]),int i64 0,string (ByteArray.mk #[]),slice none 0 0] 48→
 P1 [int i64 (n4+1),string s3,int i64 n5,string s4,slice a5 k12 k13] w14∧
 P2 [int i64 (n4+1),string s3,int i64 n5,string s4,slice a5 k12 k13] w14<P2 [int i64 n4,string s3,int i64 n5,string s4,slice a2 k5 k6] w8))∧
 (¬n4<n3→
 ∀w15,KpL [k1] w8 w15→
 Hb w15 k2 #[string s3,int i64 n5,string s4,slice a2 k5 k6] 48∧
 Hb w15 k1 #[string s3,int i64 n5,string s4,slice a2 k5 k6] 48→
 R (returned (agg #[string s3,int i64 n5,string s4,slice a2 k5 k6])) w15))))):Calls Tryz.prog 66 #[pointer (some (Addr.mk s 0 none)),pointer (some (Addr.mk r 0 none))] w R :=
 fnc0 (an:={ loops:=[⟨5,[27],[7,28,29,30,31,32,33,34,35,36,37,38,39,40,41,42],[5]⟩],muts:=[125,126,127,128,129,130,131,132],all:=true }) (args:=[.a (.c (.v (.pointer (some ⟨s,0,none⟩)))),.a (.c (.v (.pointer (some ⟨r,0,none⟩))))]) Tryz_ok Tryz.func66 (by kernel_rfl) rfl rfl h
theorem sDB_vc{s:Nat}{w:World}{R:Ending→World→Prop}
 (h :
 CallW Tryz.prog 45 #[pointer (some (Addr.mk s 0 none))] w fun e1 w1 =>
 ∃n1,e1=returned (int i64 n1)∧
 KpL [] w w1∧
 (n1≠0→
 R (returned (tuple #[slice none 0 0,int i64 n1])) w1)∧
 (¬n1≠0→
 ∃a1 k1 k2,LdA w1 ((Addr.mk s 0 none).add 2) [slice a1 k1 k2]∧
 Ev Tryz.prog (Instr.makeSlice (140:Nat) (int i64 (↑k1:Int)) (int i64 (↑k1:Int))) w1 fun y1 w2 =>
 ∃a2 k3 k4,y1=slice a2 k3 k4∧
 ∃l1,KpL l1 w1 w2∧
 ∃m1,LdA w2 ((Addr.mk s 0 none).add 3) [map m1]∧
 Ev Tryz.prog (Instr.range 114 (map m1)) w2 fun y2 w3 =>
 ∃d1,y2=pointer (some d1)∧
 ∃l2,KpL l2 w2 w3∧
 ∃(P1:List Value→World→Prop) (P2:List Value→World→Nat),P1 [] w3∧
 ∀w4,P1 [] w4→
 Ev Tryz.prog (Instr.next (pointer (some d1)) false 0) w4 fun y3 w5 =>
 (y3=tuple #[Value.bool false]∧
 ∃l3,KpL l3 w4 w5∧
 ∃a3 k5 k6,LdA w5 ((Addr.mk s 0 none).add 2) [slice a3 k5 k6]∧
 ∃(P3:List Value→World→Prop) (P4:List Value→World→Nat),P3 [slice none 0 0,int i64 0] w5∧
 ∀a4 k7 k8 n2 w6,P3 [slice a4 k7 k8,int i64 n2] w6→
 (n2<(↑k5:Int)→
 ∃d2,a3=some d2∧
 0≤n2∧
 n2<(↑k5:Int)∧
 ∃s1 a5 k9 k10 a6 k11 k12 a7 k13 k14,LdA w6 (d2.add (n2.toNat*4)) [string s1,slice a5 k9 k10,slice a6 k11 k12,slice a7 k13 k14]∧
 ∀k15,w6.heap.size≤k15→
 ∃d3,a2=some d3∧
 0≤n2∧
 n2<(↑k3:Int)∧
 ∃a8 k16 k17,LdA w6 (d3.add (n2.toNat*1)) [slice a8 k16 k17]∧
 (∀w7,KpL [] w6 w7→
 Hb w7 k15 #[string s1,slice a5 k9 k10,slice a6 k11 k12,slice a7 k13 k14] 60→
 CallW Tryz.prog 69 #[slice a5 k9 k10,slice a6 k11 k12,slice a8 k16 k17] w7 fun e2 w8 =>
 ∃a9 k18 k19 a10 k20 k21 a11 k22 k23 n3,e2=returned (tuple #[agg #[slice a9 k18 k19,slice a10 k20 k21,slice a11 k22 k23],int i64 n3])∧
 KpL [] w7 w8∧
 ∀k24,w8.heap.size≤k24→
 (n3≠0→
 ∀w9,KpL [] w8 w9→
 Hb w9 k24 #[slice a9 k18 k19,slice a10 k20 k21,slice a11 k22 k23] 58∧
 Hb w9 k15 #[string s1,slice a5 k9 k10,slice a6 k11 k12,slice a7 k13 k14] 60→
 R (returned (tuple #[slice none 0 0,int i64 n3])) w9)∧
 (¬n3≠0→
 ∀k25,w8.heap.size≤k25→
 ∀w10,KpL [] w8 w10→
 Hb w10 k25 #[string s1,slice a9 k18 k19,slice a10 k20 k21,slice a11 k22 k23] 60∧
 Hb w10 k24 #[slice a9 k18 k19,slice a10 k20 k21,slice a11 k22 k23] 58∧
 Hb w10 k15 #[string s1,slice a5 k9 k10,slice a6 k11 k12,slice a7 k13 k14] 60→
 Ev Tryz.prog (Builtin.append_ #[23,23] 23 #[slice a4 k7 k8,slice (some (Addr.mk k25 0 none)) 1 1]) w10 fun y4 w11 =>
 ∃a12 k26 k27,y4=slice a12 k26 k27∧
 ∃l4,KpL l4 w10 w11∧
 (NotIn k25 l4∧
 NotIn k24 l4∧
 NotIn k15 l4)∧
 InI i64 (n2+1)∧
 (Hb w11 k25 #[string s1,slice a9 k18 k19,slice a10 k20 k21,slice a11 k22 k23] 60∧
 Hb w11 k24 #[slice a9 k18 k19,slice a10 k20 k21,slice a11 k22 k23] 58∧
 Hb w11 k15 #[string s1,slice a5 k9 k10,slice a6 k11 k12,slice a7 k13 k14] 60→
 P3 [slice a12 k26 k27,int i64 (n2+1)] w11∧
 P4 [slice a12 k26 k27,int i64 (n2+1)] w11<P4 [slice a4 k7 k8,int i64 n2] w6)))∧
 ∀k28,w6.heap.size≤k28→
 ∀w12,KpL [] w6 w12→
 Hb w12 k28 #[slice none 0 0,slice none 0 0,slice none 0 0] 58∧
 Hb w12 k15 #[string s1,slice a5 k9 k10,slice a6 k11 k12,slice a7 k13 k14] 60→
 CallW Tryz.prog 69 #[slice a5 k9 k10,slice a6 k11 k12,slice a8 k16 k17] w12 fun e3 w13 =>
 ∃a13 k29 k30 a14 k31 k32 a15 k33 k34 n4,e3=returned (tuple #[agg #[slice a13 k29 k30,slice a14 k31 k32,slice a15 k33 k34],int i64 n4])∧
 KpL [] w12 w13∧
 (n4≠0→
 ∀w14,KpL [k28] w13 w14→
 Hb w14 k28 #[slice a13 k29 k30,slice a14 k31 k32,slice a15 k33 k34] 58∧
 Hb w14 k15 #[string s1,slice a5 k9 k10,slice a6 k11 k12,slice a7 k13 k14] 60→
 R (returned (tuple #[slice none 0 0,int i64 n4])) w14)∧
 (¬n4≠0→
 ∀k35,w13.heap.size≤k35→
 ∀w15,KpL [k28] w13 w15→
 Hb w15 k35 #[string s1,slice a13 k29 k30,slice a14 k31 k32,slice a15 k33 k34] 60∧
 Hb w15 k28 #[slice a13 k29 k30,slice a14 k31 k32,slice a15 k33 k34] 58∧
 Hb w15 k15 #[string s1,slice a5 k9 k10,slice a6 k11 k12,slice a7 k13 k14] 60→
 Ev Tryz.prog (Builtin.append_ #[23,23] 23 #[slice a4 k7 k8,slice (some (Addr.mk k35 0 none)) 1 1]) w15 fun y5 w16 =>
 ∃a16 k36 k37,y5=slice a16 k36 k37∧
 ∃l5,KpL l5 w15 w16∧
 (NotIn k35 l5∧
 NotIn k28 l5∧
 NotIn k15 l5)∧
 InI i64 (n2+1)∧
 (Hb w16 k35 #[string s1,slice a13 k29 k30,slice a14 k31 k32,slice a15 k33 k34] 60∧
 Hb w16 k28 #[slice a13 k29 k30,slice a14 k31 k32,slice a15 k33 k34] 58∧
 Hb w16 k15 #[string s1,slice a5 k9 k10,slice a6 k11 k12,slice a7 k13 k14] 60→
 P3 [slice a16 k36 k37,int i64 (n2+1)] w16∧
 P4 [slice a16 k36 k37,int i64 (n2+1)] w16<P4 [slice a4 k7 k8,int i64 n2] w6)))∧
 (¬n2<(↑k5:Int)→
 R (returned (tuple #[slice a4 k7 k8,int i64 0])) w6))∨
 (∃n5 n6 n7 n8 n9 n10 a17 k38 k39,y3=tuple #[Value.bool true,agg #[int i64 n5,int i64 n6,int i64 n7,int i64 n8,int i64 n9],agg #[int i64 n10,slice a17 k38 k39]]∧
 ∃l6,KpL l6 w4 w5∧
 Ev Tryz.prog (Instr.entry (pointer (some d1))) w5 fun y6 w17 =>
 ∃n11 n12 n13 n14 n15 n16 a18 k40 k41,y6=tuple #[agg #[int i64 n11,int i64 n12,int i64 n13,int i64 n14,int i64 n15],agg #[int i64 n16,slice a18 k40 k41]]∧
 ∃l7,KpL l7 w5 w17∧
 ∀k42,w17.heap.size≤k42→
 ∀k43,w17.heap.size≤k43→
 ((0:Int)<(↑k40:Int)→
 ∃a19 k44 k45,LdA w17 ((Addr.mk s 0 none).add 2) [slice a19 k44 k45]∧
 ∃d4,a19=some d4∧
 0≤n11∧
 n11<(↑k44:Int)∧
 ∃a20 k46 k47,LdA w17 (((d4.add (n11.toNat*4)).add 1).add 0) [slice a20 k46 k47]∧
 ∃d5,a2=some d5∧
 0≤n11∧
 n11<(↑k3:Int)∧
 ∃a21 k48 k49,LdA w17 (d5.add (n11.toNat*1)) [slice a21 k48 k49]∧
 ∃a22 k50 k51,Pv Tryz.prog (Instr.sliceAt (141:Nat) (pointer (some (Addr.mk k42 ((0:Nat)+(1:Nat)) none))) none (some (int i64 (↑k46:Int))) none) (slice a22 k50 k51)∧
 ∀w18,KpL [] w17 w18→
 Hb w18 k43 #[int i64 n16,slice a18 k40 k41] 145∧
 Hb w18 k42 #[int i64 n11,int i64 n12,int i64 n13,int i64 n14,int i64 n15] 143→
 CallW Tryz.prog 68 #[slice a22 k50 k51] w18 fun e4 w19 =>
 ∃a23 k52 k53,e4=returned (slice a23 k52 k53)∧
 KpL [] w18 w19∧
 ∀k54,w19.heap.size≤k54→
 ∀w20,KpL [] w19 w20→
 Hb w20 k54 #[slice a23 k52 k53,slice a18 k40 k41] 147∧
 Hb w20 k43 #[int i64 n16,slice a18 k40 k41] 145∧
 Hb w20 k42 #[int i64 n11,int i64 n12,int i64 n13,int i64 n14,int i64 n15] 143→
 Ev Tryz.prog (Builtin.append_ #[56,56] 56 #[slice a21 k48 k49,slice (some (Addr.mk k54 0 none)) 1 1]) w20 fun y7 w21 =>
 ∃a24 k55 k56,y7=slice a24 k55 k56∧
 ∃l8,KpL l8 w20 w21∧
 (NotIn k54 l8∧
 NotIn k43 l8∧
 NotIn k42 l8)∧
 (Hb w21 k54 #[slice a23 k52 k53,slice a18 k40 k41] 147∧
 Hb w21 k43 #[int i64 n16,slice a18 k40 k41] 145∧
 Hb w21 k42 #[int i64 n11,int i64 n12,int i64 n13,int i64 n14,int i64 n15] 143→
 (LdA w21 (Addr.mk k42 (0+0) none) [int i64 n11]∧
 True)∧
 ∃d6,a2=some d6∧
 0≤n11∧
 n11<(↑k3:Int)∧
 (Hb w21 k54 #[slice a23 k52 k53,slice a18 k40 k41] 147∧
 Hb w21 k43 #[int i64 n16,slice a18 k40 k41] 145∧
 Hb w21 k42 #[int i64 n11,int i64 n12,int i64 n13,int i64 n14,int i64 n15] 143→
 (∃l9,LdA w21 (d6.add (n11.toNat*1)) l9∧
 l9.length=1)∧
 NotFrozen w21 (d6.add (n11.toNat*1)) 1∧
 (NotIn k54 [(d6.add (n11.toNat*1)).block]∧
 NotIn k43 [(d6.add (n11.toNat*1)).block]∧
 NotIn k42 [(d6.add (n11.toNat*1)).block])∧
 ∀w22,w22=stA w21 (d6.add (n11.toNat*1)) [slice a24 k55 k56] 0→
 Hb w22 k54 #[slice a23 k52 k53,slice a18 k40 k41] 147∧
 Hb w22 k43 #[int i64 n16,slice a18 k40 k41] 145∧
 Hb w22 k42 #[int i64 n11,int i64 n12,int i64 n13,int i64 n14,int i64 n15] 143→
 P1 [] w22∧
 P2 [] w22<P2 [] w4)))∧
 (¬(0:Int)<(↑k40:Int)→
 ∀w23,KpL [] w17 w23→
 Hb w23 k43 #[int i64 n16,slice a18 k40 k41] 145∧
 Hb w23 k42 #[int i64 n11,int i64 n12,int i64 n13,int i64 n14,int i64 n15] 143→
 P1 [] w23∧
 P2 [] w23<P2 [] w4)))):Calls Tryz.prog 16 #[pointer (some (Addr.mk s 0 none))] w R :=
 fnc0 (an:={ loops:=[⟨13,[9,73],[2,3,10,11,12,13,74,75,76,77,78,79,80,81,82,83,84,85,86,87,88,89,90,91,92,93,94,95,96,97,98,99,100,101,102],[]⟩,⟨6,[],[6,7,8,30,31,32,33,34,35,36,37,38,39,40,41,42,43,44,45,46,47,48,49,50,51,52,53,54,55,56,57,58,59,60,61,62,63,64,65,66,67],[5]⟩],all:=true,ent:=[143,145] }) (args:=[.a (.c (.v (.pointer (some ⟨s,0,none⟩))))]) Tryz_ok Tryz.func16 (by kernel_rfl) rfl rfl h
end Go.Vc
namespace Go.Vc
open Go Go.Proofs
theorem apNm:ApT Tryz.prog 23 23 60 4 88:=apB_sound (by kernel_rfl)
def SC(w:World)(s l:Nat)(id:Int)(ra:Option Addr)(rn rc:Nat)(mo:Option Nat)(qa:Option Addr)(qn qc:Nat)(us:Int):Prop :=
 w.heap[s]?=some (.cells #[.pointer (some ⟨l,0,none⟩),.int .i64 id,.slice ra rn rc,.map mo,.slice qa qn qc,.int .i64 us] 116 (0,0))
section
variable {w w':World} {s l:Nat} {id:Int} {ra:Option Addr} {rn rc:Nat} {mo:Option Nat} {qa:Option Addr} {qn qc:Nat} {us:Int} (h:SC w s l id ra rn rc mo qa qn qc us)
include h
theorem SC.keep{F:List Nat}(k:KpL F w w')(hs:s∉F):SC w' s l id ra rn rc mo qa qn qc us:=(k.blk s (block_lt h) hs).trans h
theorem SC.ld2:LdA w ((⟨s,0,none⟩:Addr).add 2) [.slice ra rn rc]:=by rw[add_lit];exact ldA_blk h 2 _ rfl
theorem SC.ld3:LdA w ((⟨s,0,none⟩:Addr).add 3) [.map mo]:=by rw[add_lit];exact ldA_blk h 3 _ rfl
theorem SC.ld4:LdA w ((⟨s,0,none⟩:Addr).add 4) [.slice qa qn qc]:=by rw[add_lit];exact ldA_blk h 4 _ rfl
theorem SC.ld5:LdA w ((⟨s,0,none⟩:Addr).add 5) [.int .i64 us]:=by rw[add_lit];exact ldA_blk h 5 _ rfl
theorem SC.kpS(i:Nat)(v:Value):KpL [s] w (stA w ((⟨s,0,none⟩:Addr).add i) [v] 0):=by rw[add_lit];exact stA_kp w ⟨s,0+i,none⟩ _
theorem SC.set2(a:Option Addr)(n c:Nat):SC (stA w ((⟨s,0,none⟩:Addr).add 2) [.slice a n c] 0) s l id a n c mo qa qn qc us:=by rw[add_lit];exact stA_ld (off:=2) (l:=[_]) h (by simp)
theorem SC.set3(m:Option Nat):SC (stA w ((⟨s,0,none⟩:Addr).add 3) [.map m] 0) s l id ra rn rc m qa qn qc us:=by rw[add_lit];exact stA_ld (off:=3) (l:=[_]) h (by simp)
theorem SC.set4(a:Option Addr)(n c:Nat):SC (stA w ((⟨s,0,none⟩:Addr).add 4) [.slice a n c] 0) s l id ra rn rc mo a n c us:=by rw[add_lit];exact stA_ld (off:=4) (l:=[_]) h (by simp)
theorem SC.set5(u:Int):SC (stA w ((⟨s,0,none⟩:Addr).add 5) [.int .i64 u] 0) s l id ra rn rc mo qa qn qc u:=by rw[add_lit];exact stA_ld (off:=5) (l:=[_]) h (by simp)
theorem SC.nf(i:Nat):NotFrozen w ((⟨s,0,none⟩:Addr).add i) 1:=by rw[add_lit];exact notFrozen h
end
theorem RdAt.to{N N' F:List Nat}{w w':World}{r:Nat}{bs:List Int}(h:RdAt N w r bs)(k:KpL F w w')(hr:r∉F)(hs:∀b∈F,b∈N∨w.heap.size≤b)(hn:∀b∈N',b∈N∨w.heap.size≤b):RdAt N' w' r bs:=h.step k hr hs hn
theorem plOf_ini{arrays:List Nm}{nb:Nat}{p:Pl×Sta}(h:PlOk arrays nb p)(hs:∀x∈arrays,schemaE x.arr.dims x.arr.attrs=0)(ha:arrays.length≤1000):p.1.ok:=by
 obtain⟨h1,h2,h3,h4,h5,h6,_⟩:=h.dims hs
 have h0:=h.a0
 rw[←h6]
 exact plOf_ok (ini_i64.2 (by omega)) fun x hx=>ini_i64.2 (by have:=h5 x hx;omega)
theorem putM_new{κ β:Type}[DecidableEq κ]{l:List (κ×β)}{k:κ}{v:β}(h:k∉l.map (·.1)):putM l k v=l++[(k,v)]:=by
 unfold putM
 rw[if_neg]
 simp only[List.any_eq_true,decide_eq_true_eq,not_exists,not_and]
 intro x hx he
 exact h (List.mem_map.2 ⟨x,hx,he⟩)
set_option maxHeartbeats 8000000 in
theorem sRead_ok{M:List Nat}{w:World}{s r l d:Nat}{num nxt us:Int}{st:Sto}(hs:SC w s l st.id none 0 0 none none 0 0 us)(hlog:LogAt w l d num nxt)(hM:∀b∈M,b<w.heap.size)(hsl:s≠l)(hsM:s∉M)(hlM:l∉M)(hrl:r≠l)(hrM:r∉M)(hsr:s≠r)
 (hrd:RdAt (s::M) w r (encBase st.arrays st.batches st.places))(hv:StoV st)(hid:InI .i64 st.id)(hus:InI .i64 us):
 Calls Tryz.prog 65 #[.pointer (some ⟨s,0,none⟩),.pointer (some ⟨r,0,none⟩)] w fun e w'=>e=.returned (.tuple #[])∧KpL [r,s] w w'∧
  ∃F,StoreAt M w' s l d num nxt { st with use:=1+8*st.arrays.length+3*st.places.length+st.batches.length } F∧∀b∈F,b=s∨b=l∨w.heap.size≤b:=by
 have hmx:maxSl=140737488355328:=rfl
 have ha1:=hv.a1
 have han:=hv.an
 have hbn:=hv.bn
 have hpn:=hv.pn
 obtain⟨sid,arrays,ps,bs,use⟩:=st
 dsimp only at *
 have hll:=block_lt hlog
 have hsl':=block_lt hs
 have hrl':=hrd.lt
 unfold encBase encBase1 at hrd
 simp only[List.append_assoc]at hrd
 generalize hr3:encU (ps.length:Int)++ps.flatMap (encPs arrays)=rest3 at *
 generalize hr2:encU (bs.length:Int)++(bs.flatMap encSeen++rest3)=rest2 at *
 have lenNm:∀x∈arrays,1≤(encNm x).length:=fun x _=>by unfold encNm;have:=encS_pos x.name;simp only[List.length_append];omega
 have lenSeen:∀x∈bs,1≤(encSeen x).length:=fun x _=>by unfold encSeen;have:=encS_pos x.token;simp only[List.length_append];omega
 have lenPs:∀x∈ps,1≤(encPs arrays x).length:=fun x _=>by unfold encPs;have:=encU_pos (IntKind.u64.wrap x.1.a);simp only[List.length_append];omega
 have hMl:∀{w':World},KpL [r,s] w w'→∀b∈l::r::s::M,b<w'.heap.size:=by
  intro w' hk b hb
  have:=hk.size
  simp only[List.mem_cons]at hb
  rcases hb with rfl|rfl|rfl|hb
  ·omega
  ·omega
  ·omega
  ·have:=hM b hb;omega
 refine sRead_vc ⟨(rCount_ok hrd (by rw[List.length_append];have:=flat_ge lenNm;omega) (by omega)).mono ?_⟩
 rintro e w1 ⟨rfl,hw1,hD1⟩
 refine⟨_,rfl,_,hw1,fun vs w'=>∃(i:Nat) (a:Option Addr) (n c:Nat),vs=[.int .i64 (i:Int)]∧i≤arrays.length∧KpL [r,s] w w'∧SC w' s l sid a n c none none 0 0 us∧Acc tNm (l::r::s::M) w' (arrays.take i) a n c∧(∀b∈blkL a,w.heap.size≤b)∧RdAt (blkL a++s::M) w' r ((arrays.drop i).flatMap encNm++rest2),
  fun vs _=>match vs with|[.int _ i]=>arrays.length - i.toNat|_=>0,⟨0,none,0,0,rfl,by omega,hw1.mono (by simp),hs.keep hw1 (by simpa using hsr),Acc.nil' _ (hMl (hw1.mono (by simp))),by simp[blkL],hD1⟩,?_⟩
 rintro n2 w2 ⟨i,a,n,c,hvs,hi,hk2,hs2,hA,hnew,hD2⟩
 simp only[List.cons.injEq,Value.int.injEq,true_and,and_true]at hvs
 subst hvs
 constructor
 ·intro hlt
  have gi:i<arrays.length:=by omega
  have hlA:=hA.len
  rw[List.length_take,Nat.min_eq_left hi]at hlA
  have htk:=List.take_append_getElem gi
  have hsch:=hv.sch _ (List.getElem_mem gi)
  have hnm:=nameOk_12 (hv.nms _ (List.getElem_mem gi))
  have hcel:=hv.cel _ (List.getElem_mem gi)
  rw[List.drop_eq_getElem_cons gi,List.flatMap_cons,List.append_assoc]at hD2
  generalize hrX:(arrays.drop (i+1)).flatMap encNm++rest2=restX at *
  generalize arrays[i]=x at *
  unfold encNm at hD2
  simp only[List.append_assoc]at hD2
  have hsd:=sch_dims hsch
  have h14:=dims_14 hsd.1
  have hdi:=dims_in hsd.1
  have hai:=sch_attrs hsch
  generalize hrA:encU (x.arr.attrs.length:Int)++(x.arr.attrs.flatMap encA++restX)=restA at *
  have s2l:=hk2.size
  refine⟨(rText_ok hD2 (by omega)).mono ?_⟩
  rintro e w3 ⟨rfl,hw3,hD3⟩
  have s3:=hw3.size
  refine⟨_,rfl,_,hw3,fun k1 hk1 w4 hw4 hkn4=>?_⟩
  have hk24:KpL [r] w2 w4:=hw3.trans (hw4.mono (by simp))
  have hD4:RdAt (k1::(blkL a++s::M)) w4 r _:=(hD3.to hw4 (by simp) (by simp) (N':=k1::(blkL a++s::M)) fun b hb=>(List.mem_cons.1 hb).elim (fun h=>.inr (by omega)) .inl)
  have k1r:k1≠r:=by have:=hD2.lt;omega
  refine⟨(rCount_ok hD4 (by rw[List.length_append];have:=flat_ge (f:=encD) (l:=x.arr.dims) (fun d _=>by unfold encD;have:=encS_pos d.name;simp only[List.length_append];omega);omega) (by omega)).mono ?_⟩
  rintro e w5 ⟨rfl,hw5,hD5⟩
  have hk25:=hk24.trans hw5
  have hk1l:=block_lt hkn4
  have s45:=hw5.size
  have hKl5:∀b∈k1::(blkL a++l::r::s::M),b<w5.heap.size:=by
   intro b hb
   rcases List.mem_cons.1 hb with rfl|hb
   ·omega
   ·rcases List.mem_append.1 hb with hb|hb
    ·have:=(hA.blk_lt b hb).1;have:=hk25.size;omega
    ·have:=hA.mlt b hb;have:=hk25.size;omega
  refine⟨_,rfl,_,hw5,⟨by simpa using k1r⟩,fun vs w'=>∃(j:Nat) (a1:Option Addr) (n1 c1:Nat),vs=[.int .i64 (j:Int),.string x.name,.slice a1 n1 c1,.slice none 0 0,.slice none 0 0]∧j≤x.arr.dims.length∧KpL [r] w2 w'∧k1<w'.heap.size∧RdAt (blkL a1++(k1::(blkL a++s::M))) w' r ((x.arr.dims.drop j).flatMap encD++restA)∧Acc tDim (k1::(blkL a++l::r::s::M)) w' (x.arr.dims.take j) a1 n1 c1∧∀b∈blkL a1,w2.heap.size≤b,
   fun vs _=>match vs with|.int _ i::_=>x.arr.dims.length - i.toNat|_=>0,fun _=>⟨0,none,0,0,rfl,by omega,hk25,by omega,hD5,Acc.nil' _ hKl5,by simp[blkL]⟩,?_⟩
  rintro n4 s2 a1 k2 k3 a2' k4 k5 a3' k6 k7 w6 hkn6 ⟨j,_,_,_,hvs,hj,hk26,hk1l6,hD6,hA6,hnew6⟩
  simp only[List.cons.injEq,Value.int.injEq,Value.string.injEq,Value.slice.injEq,true_and,and_true]at hvs
  obtain⟨rfl,rfl,⟨rfl,rfl,rfl⟩,⟨rfl,rfl,rfl⟩,⟨rfl,rfl,rfl⟩⟩:=hvs
  constructor
  ·intro hjl w7 hw7 _
   have gj:j<x.arr.dims.length:=by omega
   have hlA6:=hA6.len
   rw[List.length_take,Nat.min_eq_left hj]at hlA6
   have htj:=List.take_append_getElem gj
   have hdd:=hdi _ (List.getElem_mem gj)
   rw[List.drop_eq_getElem_cons gj,List.flatMap_cons,List.append_assoc]at hD6
   generalize hrD:(x.arr.dims.drop (j+1)).flatMap encD++restA=restD at *
   generalize x.arr.dims[j]=dd at *
   unfold encD at hD6
   simp only[List.append_assoc]at hD6
   have hd12:=nameOk_12 hdd.1
   refine⟨(rText_ok (hD6.kp0 hw7) (by omega)).mono ?_⟩
   rintro e w8 ⟨rfl,hw8,hD8⟩
   refine⟨_,rfl,_,hw8,⟨by simpa using k1r⟩,fun hkn8=>⟨⟨ldA_blk hkn8 1 _ rfl,trivial⟩,fun _=>⟨(rSigned_ok hD8 (by omega) (by omega)).mono ?_⟩⟩⟩
   rintro e w9 ⟨rfl,hw9,hD9⟩
   refine⟨_,rfl,_,hw9,⟨by simpa using k1r⟩,fun hkn9=>⟨⟨ldA_blk hkn9 1 _ rfl,trivial⟩,fun _=>⟨(rSigned_ok hD9 (by omega) (by omega)).mono ?_⟩⟩⟩
   rintro e w10 ⟨rfl,hw10,hD10⟩
   refine⟨_,rfl,_,hw10,⟨by simpa using k1r⟩,fun hkn10=>⟨⟨ldA_blk hkn10 1 _ rfl,trivial⟩,fun k8 hk8 w11 hw11 hkn11=>?_⟩⟩
   have hk611:KpL [r] w6 w11:=((((hw7.mono (by simp)).trans hw8).trans hw9).trans hw10).trans (hw11.mono (by simp))
   have hA11:=hA6.kp hk611 (by simp)
   have s611:=(((hw7.mono (by simp)).trans hw8).trans hw9).trans hw10 |>.size
   refine ev_append1 apD hA11 hkn11.1 (⟨rfl,by show dd.name.size≤_;omega,ini_i64.2 (by omega),ini_i64.2 (by omega)⟩:R tDim _ _ dd _) (by omega) fun a4 c4 w12 hC=>⟨_,_,_,rfl,_,hC.kp,⟨⟨fun hm=>by have:=(hA6.blk_lt _ hm).1;omega⟩,hA6.out (by simp)⟩,ini_i64.2 (by omega),fun w13 hw13 hkn13=>⟨⟨j+1,a4,k2+1,c4,rfl,by omega,?_,block_lt hkn13.2,?_,?_,?_⟩,by dsimp only;omega⟩⟩
   ·exact((hk26.trans hk611).more hC.kp fun b hb=>.inr (hnew6 b hb)).more hw13 fun b hb=>.inr (by simp at hb;omega)
   ·rw[hrD]
    refine((hD10.kp0 hw11).to hC.kp (fun hm=>(hA6.blk_lt r hm).2 (by simp)) (fun b hb=>.inl (by simp[hb])) (N':=blkL a4++(k1::(blkL a++s::M))) fun b hb=>?_).to hw13 (by simpa using k1r.symm) (fun b hb=>.inl (by simp at hb;simp[hb])) fun b hb=>.inl hb
    rcases List.mem_append.1 hb with hb|hb
    ·exact(hC.own b hb).imp (fun h=>by simp[h]) id
    ·exact .inl (by(simp at hb ⊢;first|exact hb|exact .inr hb|exact .inr (.inr hb)|exact .inr (.inr (.inr hb))|exact .inr (.inr (.inr (.inr hb)))))
   ·rw[←htj];exact hC.acc.kp hw13 (by simp)
   ·intro b hb
    rcases hC.own b hb with hb|hb
    ·exact hnew6 b hb
    ·have:=hk26.size;have:=hk611.size;omega
  intro hge _
  have hje:j=x.arr.dims.length:=by omega
  subst hje
  rw[List.take_length]at hA6
  rw[List.drop_length,List.flatMap_nil,List.nil_append,←hrA]at hD6
  have hRd:=hA6.done (by have:=hA6.len;omega)
  refine⟨(rCount_ok hD6 (by rw[List.length_append];have:=flat_ge (f:=encA) (l:=x.arr.attrs) (fun d _=>by unfold encA;have:=encS_pos d.name;simp only[List.length_append];omega);omega) (by omega)).mono ?_⟩
  rintro e w14 ⟨rfl,hw14,hD14⟩
  have s14:=hw14.size
  have hk214:=hk26.trans hw14
  refine⟨_,rfl,_,hw14,⟨by simpa using k1r⟩,fun vs w'=>∃(j:Nat) (a2:Option Addr) (n2 c2:Nat),vs=[.int .i64 (j:Int),.string x.name,.slice a1 k2 k3,.slice a2 n2 c2,.slice none 0 0]∧j≤x.arr.attrs.length∧KpL [r] w2 w'∧k1<w'.heap.size∧R (tSl tDim) (blkL a2++(k1::(blkL a++l::r::s::M))) w' x.arr.dims [.slice a1 k2 k3]∧RdAt (blkL a2++(k1::(blkL a++s::M))) w' r ((x.arr.attrs.drop j).flatMap encA++restX)∧Acc tAttr (k1::(blkL a++l::r::s::M)) w' (x.arr.attrs.take j) a2 n2 c2∧∀b∈blkL a2,w2.heap.size≤b,
   fun vs _=>match vs with|.int _ i::_=>x.arr.attrs.length - i.toNat|_=>0,fun _=>⟨0,none,0,0,rfl,by omega,hk214,by omega,(hRd.kp hw14 (by simp)),hD14.to (KpL.refl [] _) (by simp) (by simp) (fun b hb=>.inl (List.mem_append_right _ hb)),Acc.nil' _ (fun b hb=>by have:=hA6.mlt b hb;omega),by simp[blkL]⟩,?_⟩
  rintro n8 s4 a5 k11 k12 a6 k13 k14 a7 k15 k16 w15 hkn15 ⟨j,_,_,_,hvs,hj,hk215,hk1l15,hRd15,hD15,hA15,hnew15⟩
  simp only[List.cons.injEq,Value.int.injEq,Value.string.injEq,Value.slice.injEq,true_and,and_true]at hvs
  obtain⟨rfl,rfl,⟨rfl,rfl,rfl⟩,⟨rfl,rfl,rfl⟩,⟨rfl,rfl,rfl⟩⟩:=hvs
  constructor
  ·intro hjl w16 hw16 _
   have gj:j<x.arr.attrs.length:=by omega
   have hlA15:=hA15.len
   rw[List.length_take,Nat.min_eq_left hj]at hlA15
   have htj:=List.take_append_getElem gj
   have hdd:=hai _ (List.getElem_mem gj)
   rw[List.drop_eq_getElem_cons gj,List.flatMap_cons,List.append_assoc]at hD15
   generalize hrD:(x.arr.attrs.drop (j+1)).flatMap encA++restX=restD at *
   generalize x.arr.attrs[j]=dd at *
   unfold encA at hD15
   simp only[List.append_assoc]at hD15
   have hd12:=nameOk_12 hdd.1
   refine⟨(rText_ok (hD15.kp0 hw16) (by omega)).mono ?_⟩
   rintro e w17 ⟨rfl,hw17,hD17⟩
   refine⟨_,rfl,_,hw17,⟨by simpa using k1r⟩,fun hkn17=>⟨⟨ldA_blk hkn17 2 _ rfl,trivial⟩,fun _=>⟨(rByte_ok hD17).mono ?_⟩⟩⟩
   rintro e w18 ⟨rfl,hw18,hD18,_⟩
   rw[show dd.type%256=dd.type from by omega]
   refine⟨_,rfl,_,hw18,⟨by simpa using k1r⟩,fun hkn18=>⟨⟨ldA_blk hkn18 2 _ rfl,trivial⟩,ini_i64.2 (by omega),fun k17 hk17 w19 hw19 hkn19=>?_⟩⟩
   have hk1519:KpL [r] w15 w19:=(((hw16.mono (by simp)).trans hw17).trans hw18).trans (hw19.mono (by simp))
   have hA19:=hA15.kp hk1519 (by simp)
   have s1519:=((hw16.mono (by simp)).trans hw17).trans hw18 |>.size
   refine ev_append1 apA hA19 hkn19.1 (⟨rfl,by show dd.name.size≤_;omega,ini_i64.2 (by omega)⟩:R tAttr _ _ dd _) (by omega) fun a8 c8 w20 hC=>⟨_,_,_,rfl,_,hC.kp,⟨⟨fun hm=>by have:=(hA15.blk_lt _ hm).1;omega⟩,hA15.out (by simp)⟩,ini_i64.2 (by omega),fun w21 hw21 hkn21=>⟨⟨j+1,a8,k13+1,c8,rfl,by omega,?_,block_lt hkn21.2,?_,?_,?_,?_⟩,by dsimp only;omega⟩⟩
   ·exact((hk215.trans hk1519).more hC.kp fun b hb=>.inr (hnew15 b hb)).more hw21 fun b hb=>.inr (by simp at hb;omega)
   ·refine((hRd15.kp hk1519 (by simp)).step hC.kp (fun b hb=>by simp[hb]) (M':=blkL a8++(k1::(blkL a++l::r::s::M))) fun b hb=>?_).kp hw21 (by simp)
    rcases List.mem_append.1 hb with hb|hb
    ·exact(hC.own b hb).imp (fun h=>by simp[h]) id
    ·exact .inl (by(simp at hb ⊢;first|exact hb|exact .inr hb|exact .inr (.inr hb)|exact .inr (.inr (.inr hb))|exact .inr (.inr (.inr (.inr hb)))))
   ·rw[hrD]
    refine((hD18.kp0 hw19).to hC.kp (fun hm=>(hA15.blk_lt r hm).2 (by simp)) (fun b hb=>.inl (by simp[hb])) (N':=blkL a8++(k1::(blkL a++s::M))) fun b hb=>?_).to hw21 (by simpa using k1r.symm) (fun b hb=>.inl (by simp at hb;simp[hb])) fun b hb=>.inl hb
    rcases List.mem_append.1 hb with hb|hb
    ·exact(hC.own b hb).imp (fun h=>by simp[h]) id
    ·exact .inl (by(simp at hb ⊢;first|exact hb|exact .inr hb|exact .inr (.inr hb)|exact .inr (.inr (.inr hb))|exact .inr (.inr (.inr (.inr hb)))))
   ·rw[←htj];exact hC.acc.kp hw21 (by simp)
   ·intro b hb
    rcases hC.own b hb with hb|hb
    ·exact hnew15 b hb
    ·have:=hk215.size;have:=hk1519.size;omega
  intro hge2
  have hje:j=x.arr.attrs.length:=by omega
  subst hje
  rw[List.take_length]at hA15
  rw[List.drop_length,List.flatMap_nil,List.nil_append]at hD15
  have hRa:=hA15.done (by have:=hA15.len;omega)
  have hs15:=hs2.keep hk215 (by simpa using hsr)
  refine⟨_,_,_,hs15.ld2,fun k22 hk22 w22 hw22 hkn22=>?_⟩
  have hk222:KpL [r] w2 w22:=hk215.trans (hw22.mono (by simp))
  have hs22:=hs2.keep hk222 (by simpa using hsr)
  have hA22:=hA.kp hk222 (by simp)
  have hRx:R tNm (blkL a++l::r::s::M) w22 x [.string x.name,.slice a5 k11 k12,.slice a6 k13 k14,.slice none 0 0]:=by
   refine R.mkNm (by omega) ((hRd15.kp0 hw22).weak fun b hb=>by(simp at hb ⊢;first|exact hb|exact .inr hb|exact .inr (.inr hb)|exact .inr (.inr (.inr hb))|exact .inr (.inr (.inr (.inr hb))))) ((hRa.kp0 hw22).weak fun b hb=>by(simp at hb ⊢;first|exact hb|exact .inr hb|exact .inr (.inr hb)|exact .inr (.inr (.inr hb))|exact .inr (.inr (.inr (.inr hb))))) ?_
   rw[hcel];exact R.sl_nil _ _ _ _ _
  have hsA:s∉blkL a:=fun hm=>(hA.blk_lt s hm).2 (by simp)
  have s222:=hk215.size
  refine ev_append1 apNm hA22 hkn22.1 hRx (by omega) fun a10 c10 w23 hC=>⟨_,_,_,rfl,_,hC.kp,⟨⟨fun hm=>by have:=(hA.blk_lt _ hm).1;omega⟩,⟨fun hm=>by have:=(hA.blk_lt _ hm).1;omega⟩⟩,fun hkn23=>?_⟩
  have hs23:=hs22.keep hC.kp hsA
  have hkS:=hs23.kpS 2 (.slice a10 (n+1) c10)
  refine⟨⟨_,hs23.ld2,rfl⟩,hs23.nf 2,⟨⟨by simp;omega⟩,⟨by simp;omega⟩⟩,?_⟩
  rintro w24 rfl
  refine⟨ini_i64.2 (by omega),fun _=>⟨⟨i+1,a10,n+1,c10,rfl,by omega,?_,hs23.set2 _ _ _,?_,?_,?_⟩,by dsimp only;omega⟩⟩
  ·exact((hk2.trans (hk222.mono (by simp))).more hC.kp fun b hb=>.inr (hnew b hb)).trans (hkS.mono (by simp))
  ·rw[←htk];exact hC.acc.kp hkS (by simp)
  ·intro b hb
   rcases hC.own b hb with hb|hb
   ·exact hnew b hb
   ·have:=hk222.size;omega
  ·rw[hrX]
   refine((hD15.kp0 hw22).to hC.kp (fun hm=>(hA.blk_lt r hm).2 (by simp)) (fun b hb=>.inl (by simp[hb])) (N':=blkL a10++s::M) fun b hb=>?_).to hkS (by simpa using hsr.symm) (fun b hb=>.inl (by simp at hb;simp[hb])) fun b hb=>.inl hb
   rcases List.mem_append.1 hb with hb|hb
   ·exact(hC.own b hb).imp (fun h=>by simp[h]) id
   ·exact .inl (by(simp at hb ⊢;first|exact hb|exact .inr hb|exact .inr (.inr hb)|exact .inr (.inr (.inr hb))|exact .inr (.inr (.inr (.inr hb)))))
 intro hge
 have hie:i=arrays.length:=by omega
 subst hie
 rw[List.take_length]at hA
 rw[List.drop_length,List.flatMap_nil,List.nil_append,←hr2]at hD2
 have hRa:=hA.done (by have:=hA.len;omega)
 refine⟨(rCount_ok hD2 (by rw[List.length_append];have:=flat_ge lenSeen;omega) (by omega)).mono ?_⟩
 rintro e w25 ⟨rfl,hw25,hD25⟩
 have hk25:KpL [r,s] w w25:=hk2.trans (hw25.mono (by simp))
 refine⟨_,rfl,_,hw25,fun vs w'=>∃(i:Nat) (q:Option Addr) (qn qc:Nat),vs=[.int .i64 (i:Int)]∧i≤bs.length∧KpL [r,s] w w'∧SC w' s l sid a n c none q qn qc us∧R (tSl tNm) (blkL q++l::r::s::M) w' arrays [.slice a n c]∧Acc tSeen (l::r::s::M) w' (bs.take i) q qn qc∧(∀b∈blkL q,w.heap.size≤b)∧RdAt (blkL q++s::M) w' r ((bs.drop i).flatMap encSeen++rest3),
  fun vs _=>match vs with|[.int _ i]=>bs.length - i.toNat|_=>0,⟨0,none,0,0,rfl,by omega,hk25,hs2.keep hw25 (by simpa using hsr),hRa.kp hw25 (by simp),Acc.nil' _ (hMl hk25),by simp[blkL],hD25.to (KpL.refl [] _) (by simp) (by simp) (fun b hb=>.inl (List.mem_append_right _ hb))⟩,?_⟩
 rintro n11 w26 ⟨i,q,qn,qc,hvs,hi,hk26,hs26,hRa26,hA26,hnew26,hD26⟩
 simp only[List.cons.injEq,Value.int.injEq,true_and,and_true]at hvs
 subst hvs
 have s26:=hk26.size
 constructor
 ·intro hlt
  have gi:i<bs.length:=by omega
  have hlA:=hA26.len
  rw[List.length_take,Nat.min_eq_left hi]at hlA
  have htk:=List.take_append_getElem gi
  have hbx:=hv.bat _ (List.getElem_mem gi)
  rw[List.drop_eq_getElem_cons gi,List.flatMap_cons,List.append_assoc]at hD26
  generalize hrX:(bs.drop (i+1)).flatMap encSeen++rest3=restX at *
  generalize bs[i]=x at *
  unfold encSeen at hD26
  simp only[List.append_assoc]at hD26
  have hd12:=nameOk_12 hbx.1
  refine⟨_,_,_,hs26.ld4,fun w27 hw27=>⟨(rText_ok (hD26.kp0 hw27) (by omega)).mono ?_⟩⟩
  rintro e w28 ⟨rfl,hw28,hD28⟩
  have hk28:KpL [r] w26 w28:=(hw27.mono (by simp)).trans hw28
  refine⟨_,rfl,_,hw28,⟨(hs26.keep hk28 (by simpa using hsr)).ld4,trivial⟩,⟨(rSigned_ok hD28 (by omega) (by omega)).mono ?_⟩⟩
  rintro e w29 ⟨rfl,hw29,hD29⟩
  have hk29:=hk28.trans hw29
  refine⟨_,rfl,_,hw29,⟨(hs26.keep hk29 (by simpa using hsr)).ld4,trivial⟩,fun k27 hk27 w30 hw30 hkn30=>?_⟩
  have hk30:KpL [r] w26 w30:=hk29.trans (hw30.mono (by simp))
  have hA30:=hA26.kp hk30 (by simp)
  have hs30:=hs26.keep hk30 (by simpa using hsr)
  have hsq:s∉blkL q:=fun hm=>(hA26.blk_lt s hm).2 (by simp)
  have s29:=hk29.size
  refine ev_append1 apSeen hA30 hkn30 (⟨rfl,by show x.token.size≤_;omega,ini_i64.2 (by omega)⟩:R tSeen _ _ x _) (by omega) fun a12 c12 w31 hC=>⟨_,_,_,rfl,_,hC.kp,⟨fun hm=>by have:=(hA26.blk_lt _ hm).1;omega⟩,fun hkn31=>?_⟩
  have hs31:=hs30.keep hC.kp hsq
  have hkS:=hs31.kpS 4 (.slice a12 (qn+1) c12)
  refine⟨⟨_,hs31.ld4,rfl⟩,hs31.nf 4,⟨by simp;have:=block_lt hs26;omega⟩,?_⟩
  rintro w32 rfl
  refine⟨ini_i64.2 (by omega),fun _=>⟨⟨i+1,a12,qn+1,c12,rfl,by omega,?_,hs31.set4 _ _ _,?_,?_,?_,?_⟩,by dsimp only;omega⟩⟩
  ·exact((hk26.trans (hk30.mono (by simp))).more hC.kp fun b hb=>.inr (hnew26 b hb)).trans (hkS.mono (by simp))
  ·refine((hRa26.kp hk30 (by simp)).step hC.kp (fun b hb=>by simp[hb]) (M':=blkL a12++l::r::s::M) fun b hb=>?_).kp hkS (by simp)
   rcases List.mem_append.1 hb with hb|hb
   ·exact(hC.own b hb).imp (fun h=>by simp[h]) id
   ·exact .inl (by(simp at hb ⊢;first|exact hb|exact .inr hb|exact .inr (.inr hb)|exact .inr (.inr (.inr hb))|exact .inr (.inr (.inr (.inr hb)))))
  ·rw[←htk];exact hC.acc.kp hkS (by simp)
  ·intro b hb
   rcases hC.own b hb with hb|hb
   ·exact hnew26 b hb
   ·have:=hk30.size;omega
  ·rw[hrX]
   refine((hD29.kp0 hw30).to hC.kp (fun hm=>(hA26.blk_lt r hm).2 (by simp)) (fun b hb=>.inl (by simp[hb])) (N':=blkL a12++s::M) fun b hb=>?_).to hkS (by simpa using hsr.symm) (fun b hb=>.inl (by simp at hb;simp[hb])) fun b hb=>.inl hb
   rcases List.mem_append.1 hb with hb|hb
   ·exact(hC.own b hb).imp (fun h=>by simp[h]) id
   ·exact .inl (by(simp at hb ⊢;first|exact hb|exact .inr hb|exact .inr (.inr hb)|exact .inr (.inr (.inr hb))|exact .inr (.inr (.inr (.inr hb)))))
 intro hge2
 have hie:i=bs.length:=by omega
 subst hie
 rw[List.take_length]at hA26
 rw[List.drop_length,List.flatMap_nil,List.nil_append,←hr3]at hD26
 have hMm:∀b∈s::l::r::(blkL q++M),b<w26.heap.size:=by
  intro b hb
  simp only[List.mem_cons,List.mem_append]at hb
  rcases hb with rfl|rfl|rfl|hb|hb
  ·exact block_lt hs26
  ·omega
  ·omega
  ·exact(hA26.blk_lt b hb).1
  ·have:=hM b hb;omega
 refine ev_makeMap (enc:=Pl.enc) (t:=tSta) hMm fun w33 hm33 hw33=>⟨_,rfl,[],hw33,?_⟩
 generalize hmm:w26.heap.size=m at *
 have hs33:=hs26.keep hw33 (by simp)
 have hkS:=hs33.kpS 3 (.map (some m))
 refine⟨⟨_,hs33.ld3,rfl⟩,hs33.nf 3,?_⟩
 rintro w34 rfl
 have hs34:=hs33.set3 (some m)
 generalize hw34:stA w33 ((⟨s,0,none⟩:Addr).add 3) [.map (some m)] 0=w34 at *
 have hD34:RdAt (m::(blkL q++s::M)) w34 r _:=(hD26.to hw33 (by simp) (by simp) (N':=m::(blkL q++s::M)) (fun b hb=>(List.mem_cons.1 hb).elim (fun h=>.inr (by omega)) .inl)).to hkS (by simpa using hsr.symm) (fun b hb=>.inl (by simp at hb;simp[hb])) fun b hb=>.inl hb
 have hk34:KpL [r,s] w w34:=(hk26.trans (hw33.mono (by simp))).trans (hkS.mono (by simp))
 have hmlt:m<w33.heap.size:=hm33.lt
 have hk33s:KpL [s] w26 w34:=(hw33.mono (by simp)).trans hkS
 have hRa34:R (tSl tNm) (m::(blkL q++l::r::s::M)) w34 arrays [.slice a n c]:=hRa26.step hk33s (by simp) fun b hb=>(List.mem_cons.1 hb).elim (fun h=>.inr (by omega)) .inl
 have hA34:Acc tSeen (m::l::r::s::M) w34 bs q qn qc:=hA26.step hk33s (by simp) fun b hb=>by
  have:=hkS.size
  rcases List.mem_cons.1 hb with rfl|hb
  ·exact⟨.inr (by omega),by omega⟩
  ·exact⟨.inl hb,hMl hk34 b hb⟩
 have hm34:=hm33.step hkS (by simp) fun b hb=>.inl hb
 refine⟨(rCount_ok hD34 (by have:=flat_ge lenPs;omega) (by omega)).mono ?_⟩
 rintro e w35 ⟨rfl,hw35,hD35⟩
 have mr:m≠r:=by omega
 refine⟨_,rfl,_,hw35,fun vs w'=>∃(i:Nat),vs=[.int .i64 (i:Int)]∧i≤ps.length∧KpL [r,s] w w'∧SC w' s l sid a n c (some m) q qn qc us∧R (tSl tNm) (m::(blkL q++l::r::s::M)) w' arrays [.slice a n c]∧Acc tSeen (m::l::r::s::M) w' bs q qn qc∧MapAt Pl.enc tSta (s::l::r::(blkL q++M)) w' m (ps.take i)∧RdAt (m::(blkL q++s::M)) w' r ((ps.drop i).flatMap (encPs arrays)),
  fun vs _=>match vs with|[.int _ i]=>ps.length - i.toNat|_=>0,⟨0,rfl,by omega,hk34.trans (hw35.mono (by simp)),hs34.keep hw35 (by simpa using hsr),hRa34.kp hw35 (by simp),hA34.kp hw35 (by simp),hm34.step hw35 (by simp) (fun b hb=>.inl hb),hD35⟩,?_⟩
 rintro n14 w36 ⟨i,hvs,hi,hk36,hs36,hRa36,hA36,hm36,hD36⟩
 simp only[List.cons.injEq,Value.int.injEq,true_and,and_true]at hvs
 subst hvs
 have s36:=hk36.size
 constructor
 ·intro hlt
  have gi:i<ps.length:=by omega
  have htk:=List.take_append_getElem gi
  have hp:PlOk arrays bs.length ps[i]:=hv.pls _ (List.getElem_mem gi)
  have hnotin:ps[i].1∉(ps.take i).map (·.1):=by
   intro hm
   have hnd:=hv.keys
   rw[←List.take_append_drop i ps,List.drop_eq_getElem_cons gi,List.map_append,List.map_cons,List.nodup_append]at hnd
   exact hnd.2.2 _ hm _ (by simp) rfl
  rw[List.drop_eq_getElem_cons gi,List.flatMap_cons]at hD36
  generalize hrX:(ps.drop (i+1)).flatMap (encPs arrays)=restX at *
  generalize ps[i]=p at *
  obtain⟨g1,g2,g3,g4,g5,g6,g7,g8⟩:=hp.dims hv.sch
  have ga0:=hp.a0
  have gb0:=hp.b0
  have gb1:=hp.b1
  obtain⟨x,hx,_⟩:=hp.ex
  have gx:ndims arrays p.1.a=x.arr.dims.length:=by unfold ndims;rw[hx]
  unfold encPs at hD36
  rw[wrap_in (ini_u64.2 (by omega):InI .u64 p.1.a),wrap_in (ini_u64.2 (by omega):InI .u64 p.2.batch)]at hD36
  simp only[List.append_assoc]at hD36
  generalize hatl:p.1.co.take (ndims arrays p.1.a)=at_ at *
  obtain⟨hnl,_,_⟩:=hRa36.sl_len
  refine⟨(arrayR_ok hs36 rfl hsr hD36 ga0 (by omega) (by omega)).mono ?_⟩
  rintro e w37 ⟨rfl,hw37,hD37⟩
  have hs37:=hs36.keep hw37 (by simpa using hsr)
  have hr36:=hD36.lt
  refine⟨_,rfl,_,hw37,⟨(atR_ok (M:=[r]) (nm:=x) hs37 rfl hsr (hRa36.kp hw37 (by simp)) (by simp) (by simp;have:=hw37.size;omega) (by simp) hD37 ga0 hx (by omega) (by omega) g5).mono ?_⟩⟩
  rintro e w38 ⟨a13,k30,k31,rfl,hw38,hD38,hA38,hnew38⟩
  have hk38:=hw37.trans hw38
  refine⟨_,_,_,rfl,_,hw38,_,(hs36.keep hk38 (by simpa using hsr)).ld3,fun w39 hw39=>⟨(key_ok (x:=p.1.a) ((hA38.done (by have:=hA38.len;omega)).kp0 hw39) (by omega)).mono ?_⟩⟩
  rintro e w40 ⟨rfl,hw40⟩
  rw[g6]
  have hk40:KpL [r] w36 w40:=(hk38.trans (hw39.mono (by simp))).trans (hw40.mono (by simp))
  refine⟨p.1.a,p.1.p0,p.1.p1,p.1.p2,p.1.p3,rfl,hw40,⟨(rNumber_ok (hD38.kp0 (hw39.trans hw40)) gb0 (by omega)).mono ?_⟩⟩
  rintro e w41 ⟨rfl,hw41,hD41⟩
  have hk41:=hk40.trans hw41
  have hMv:∀b∈m::s::l::r::(blkL q++M),b<w41.heap.size:=by
   intro b hb
   have:=hk41.size
   rcases List.mem_cons.1 hb with rfl|hb
   ·have:=hm36.lt;omega
   ·have:=hm36.lt
    simp only[List.mem_cons,List.mem_append]at hb
    rcases hb with rfl|rfl|rfl|hb|hb
    ·have:=block_lt hs36;omega
    ·omega
    ·omega
    ·have:=(hA36.blk_lt b hb).1;omega
    ·have:=hM b hb;omega
  refine⟨_,rfl,_,hw41,⟨(hs36.keep hk41 (by simpa using hsr)).ld3,trivial⟩,⟨(rValues_ok hMv (by simp) hD41 (by omega) fun v hv'=>Vl.canon_of (g8 v hv')).mono ?_⟩⟩
  rintro e w42 ⟨a14,k32,k33,rfl,hw42,hD42,hA42,hnew42⟩
  have hk42:=hk41.trans hw42
  refine⟨_,_,_,rfl,_,hw42,⟨(hs36.keep hk42 (by simpa using hsr)).ld3,trivial⟩,?_⟩
  rw[wrap_in (ini_i64.2 (by omega))]
  have hm42:=hm36.step hk42 (by simp) fun b hb=>.inl hb
  have hsta:R tSta (m::s::l::r::(blkL q++M)) w42 p.2 [.int .i64 p.2.batch,.slice a14 k32 k33]:=R.mkSta (ini_i64.2 (by omega)) (hA42.done (by have:=hA42.len;omega))
  refine ev_mapUpdate (enc:=Pl.enc) (v:=p.2) keyPl u114 hm42 p.1 hsta fun w43 hm43 hw43=>⟨rfl,[m],hw43,ini_i64.2 (by omega),⟨i+1,rfl,by omega,?_,?_,?_,?_,?_,?_⟩,by dsimp only;omega⟩
  ·exact(hk36.trans (hk42.mono (by simp))).more hw43 (by simp;omega)
  ·exact(hs36.keep hk42 (by simpa using hsr)).keep hw43 (by simp;rintro rfl;exact hm36.mM (by simp))
  ·exact(hRa36.kp hk42 (by simp)).kp hw43 (by simp)
  ·exact(hA36.kp hk42 (by simp)).kp hw43 (by simp)
  ·rw[putM_new hnotin]at hm43
   rw[←htk];exact hm43
  ·rw[hrX]
   refine hD42.to hw43 (by simpa using mr.symm) (fun b hb=>.inl (by simp at hb;subst hb;simp)) fun b hb=>.inl ?_
   simp only[List.mem_append]
   exact .inr (.inr hb)
 intro hge3
 have hie:i=ps.length:=by omega
 subst hie
 rw[List.take_length]at hm36
 have hSt:StoIn M w36 s l ⟨sid,arrays,ps,bs,us⟩ m a n c q qn qc→True:=fun _=>trivial
 have hl36:LogAt w36 l d num nxt:=hlog.keep hk36 (by simp;exact⟨fun h=>hrl h.symm,fun h=>hsl h.symm⟩)
 have useI:∀u:Int,InI .i64 u→∀{w':World},SC w' s l sid a n c (some m) q qn qc u→KpL [s] w36 w'→StoIn M w' s l ⟨sid,arrays,ps,bs,u⟩ m a n c q qn qc:=by
  intro u hu w' hsc hk
  refine⟨hsc,(hRa36.kp hk (by simp)).weak (fun b hb=>by simp at hb ⊢;rcases hb with rfl|rfl|rfl|hb|hb<;>simp[*]),(hm36.step hk (by simp) fun b hb=>.inl (by simp at hb ⊢;rcases hb with rfl|rfl|hb|hb<;>simp[*])),(hA36.kp hk (by simp)).weak (fun b hb=>by simp at hb ⊢;rcases hb with rfl|rfl|rfl|hb<;>simp[*]),hsl,hsM,hlM,hid,hu,fun p hp=>plOf_ini (hv.pls p hp) hv.sch (by show arrays.length≤1000;omega)⟩
 refine⟨(compacted_ok (st:=⟨sid,arrays,ps,bs,us⟩) ⟨m,a,n,c,q,qn,qc,useI us hus hs36 (KpL.refl _ _),hl36,rfl⟩ (by show arrays.length≤_;omega) (by show ps.length≤_;omega) (by show bs.length≤_;omega)).mono ?_⟩
 rintro e w44 ⟨rfl,hw44⟩
 have hs44:=hs36.keep hw44 (by simp)
 have hkS5:=hs44.kpS 5 (.int .i64 (1+8*(arrays.length:Int)+3*ps.length+bs.length))
 refine⟨_,rfl,hw44,⟨_,hs44.ld5,rfl⟩,hs44.nf 5,?_⟩
 rintro w45 rfl
 refine⟨rfl,(hk36.trans (hw44.mono (by simp))).trans (hkS5.mono (by simp)),_,⟨m,a,n,c,q,qn,qc,useI _ (ini_i64.2 (by omega)) (hs44.set5 _) ((hw44.mono (by simp)).trans hkS5),(hl36.keep hw44 (by simp)).keep hkS5 (by simpa using hsl.symm),rfl⟩,fun b hb=>?_⟩
 simp only[List.mem_cons]at hb
 rcases hb with rfl|rfl|rfl|hb
 ·exact .inl rfl
 ·exact .inr (.inl rfl)
 ·exact .inr (.inr (by omega))
 ·exact .inr (.inr (hnew26 b hb))
end Go.Vc
namespace Go.Vc
open Go Go.Proofs
theorem idxOf_at{α:Type}{p:α→Bool}:∀(l:List α) (i:Int),0≤idxOf p l i→0≤i→∃x,l[(idxOf p l i - i).toNat]?=some x∧p x=true
 |[],i,h,_=>by simp[idxOf]at h
 |x::r,i,h,hi=>by
  unfold idxOf at h ⊢
  split
  ·rename_i hp;exact⟨x,by simp,hp⟩
  ·rename_i hp
   rw[if_neg hp]at h
   obtain⟨y,hy,hpy⟩:=idxOf_at r (i+1) h (by omega)
   have hlt:∀(l:List α) (i:Int),0≤idxOf p l i→i≤idxOf p l i:=by
    intro l
    induction l with
    |nil=>intro i h;simp[idxOf]at h
    |cons z r ih =>
     intro i h
     unfold idxOf at h ⊢
     split
     ·omega
     ·rename_i hz;rw[if_neg hz]at h;have:=ih _ h;omega
   have h1:=hlt r (i+1) h
   refine⟨y,?_,hpy⟩
   rw[show(idxOf p r (i+1) - i).toNat=(idxOf p r (i+1) - (i+1)).toNat+1 from by omega,List.getElem?_cons_succ]
   exact hy
theorem findA_at{l:List Nm}{nm:ByteArray}(h:0≤findA_ l nm):∃x,l[(findA_ l nm).toNat]?=some x∧x.name=nm:=by
 obtain⟨x,h1,h2⟩:=idxOf_at (p:=fun x:Nm=>decide (x.name=nm)) l 0 h (by omega)
 refine⟨x,?_,by simpa using h2⟩
 rw[Int.sub_zero]at h1
 exact h1
theorem apCh:ApT Tryz.prog 30 30 81 2 48:=apB_sound (by kernel_rfl)
set_option maxHeartbeats 4000000 in
theorem sBatch_ok{M K F:List Nat}{w:World}{s r l d:Nat}{num nxt:Int}{st:Sto}{b:Bt}(h:StoreAt M w s l d num nxt st F)(hr:r∈M)(hK:∀x∈K,x<w.heap.size)(hrK:r∈K)(hrd:RdAt [] w r (encB st.arrays b))(hsch:∀x∈st.arrays,schemaE x.arr.dims x.arr.attrs=0)(han:st.arrays.length≤16)(hb:BtOk st b):
 Calls Tryz.prog 66 #[.pointer (some ⟨s,0,none⟩),.pointer (some ⟨r,0,none⟩)] w fun e w'=>∃ca cn cc,e=.returned (.agg #[.string b.token,.int .i64 b.stamp,.string b.array,.slice ca cn cc])∧KpL [r] w w'∧R (tSl tCell) K w' b.changes [.slice ca cn cc]:=by
 have hmx:maxSl=140737488355328:=rfl
 have htok:=nameOk_12 hb.tok
 have hst0:=hb.s0
 have hst1:=hb.s1
 have hk0:=hb.k0
 have hc2:=hb.c2
 obtain⟨x,hx,hall⟩:=hb.arr
 obtain⟨x',hx',hxn⟩:=findA_at hk0
 obtain rfl:x'=x:=by rw[hx]at hx';exact(Option.some.inj hx').symm
 have hkl:=findA_lt st.arrays b.array
 have hxs:=hsch _ (List.mem_of_getElem? hx)
 unfold encB at hrd
 simp only[List.append_assoc]at hrd
 generalize hkk:findA_ st.arrays b.array=kk at *
 rw[wrap_in (ini_u64.2 (by omega):InI .u64 kk)]at hrd
 generalize hrC:encU (b.changes.length:Int)++b.changes.flatMap encC=restC at *
 have lenC:∀c∈b.changes,1≤(encC c).length:=fun c _=>by unfold encC encVs;have:=encU_pos c.vals.length;simp only[List.length_append];omega
 obtain⟨m,ra,rn,rc,qa,qn,qc,hI,hl,rfl⟩:=h
 have hsr:s≠r:=fun e=>hI.sM (e▸hr)
 have hrA:r∈s::l::m::(blkL qa++M):=by simp[hr]
 have hkx:kk.toNat<st.arrays.length:=by rw[List.getElem?_eq_some_iff]at hx;exact hx.1
 have hxe:st.arrays[kk.toNat]=x':=by rw[List.getElem?_eq_getElem hkx]at hx;exact Option.some.inj hx
 obtain⟨hrn,_,_⟩:=hI.arr.sl_len
 have hrl:=hrd.lt
 refine sBatch_vc fun k1 hk1 w1 hw1 hkn1=>⟨(rText_ok (hrd.kp0 hw1) (by omega)).mono ?_⟩
 rintro e w2 ⟨rfl,hw2,hD2⟩
 have k1r:k1≠r:=by omega
 refine⟨_,rfl,_,hw2,⟨by simpa using k1r⟩,fun hkn2=>⟨(rSigned_ok hD2 (by omega) (by omega)).mono ?_⟩⟩
 rintro e w3 ⟨rfl,hw3,hD3⟩
 have hk3:KpL [r] w w3:=((hw1.mono (by simp)).trans hw2).trans hw3
 have hk1l:k1<w3.heap.size:=by have:=block_lt hkn2;have:=hw3.size;omega
 refine⟨_,rfl,_,hw3,⟨by simpa using k1r⟩,fun k2 hk2 w4 hw4 hkn4=>?_⟩
 have k2r:k2≠r:=by have:=hk3.size;omega
 have hk4:KpL [r] w w4:=hk3.trans (hw4.mono (by simp))
 have hs4:=(hk4.blk s (block_lt hI.hs) (by simpa using hsr)).trans hI.hs
 have hD4:RdAt [k2] w4 r _:=hD3.to hw4 (by simp) (by simp) (N':=[k2]) (fun y hy=>.inr (by simp at hy;omega))
 refine⟨(arrayR_ok hs4 rfl hsr hD4 hk0 (by omega) (by omega)).mono ?_⟩
 rintro e w5 ⟨rfl,hw5,hD5⟩
 have hk5:=hk4.trans hw5
 have hR5:=hI.arr.kp hk5 (by simpa using hrA)
 obtain⟨ad,cs,hra,hv1,hldx,_,_,hpt⟩:=hR5.sl_get2 hkx
 rw[hxe]at hv1
 obtain⟨b1,p1,q1,b2,p2,q2,b3,p3,q3,rfl,_,_,_,_⟩:=hv1.nm
 have hs5:=(hk5.blk s (block_lt hI.hs) (by simpa using hsr)).trans hI.hs
 have hname:LdA w5 ((ad.add (kk.toNat*4)).add 0) [.string b.array]:=by rw[←hxn];exact hpt 0 [_] rfl
 have hk12:k1<k2:=by omega
 have s34:=hw4.size
 refine⟨_,rfl,_,hw5,⟨⟨by simpa using k2r⟩,⟨by simpa using k1r⟩⟩,fun hkn5=>⟨_,_,_,by rw[add_lit];exact ldA_blk hs5 2 [_] rfl,ad,hra,hk0,by omega,fun _=>⟨_,hname,fun w6 hw6 hkn6=>?_⟩⟩⟩
 have k2l:=block_lt hkn6.1
 have hk6:KpL [r] w w6:=hk5.more hw6 fun y hy=>.inr (by simp at hy;have:=hk3.size;omega)
 have hD6:RdAt [k2] w6 r restC:=hD5.to hw6 (by simpa using k2r.symm) (by simp) (fun y hy=>.inl hy)
 rw[←hrC]at hD6
 refine⟨(rCount_ok hD6 (by have:=flat_ge lenC;omega) (by omega)).mono ?_⟩
 rintro e w7 ⟨rfl,hw7,hD7⟩
 have hk7:=hk6.trans hw7
 have s7:=hw7.size
 have s56:=hw6.size
 have s45:=hw5.size
 have hKl:∀y∈k1::k2::K,y<w7.heap.size:=by
  intro y hy
  have:=hk7.size
  simp only[List.mem_cons]at hy
  rcases hy with rfl|rfl|hy
  ·omega
  ·omega
  ·have:=hK y hy;omega
 refine⟨_,rfl,_,hw7,⟨⟨by simpa using k2r⟩,⟨by simpa using k1r⟩⟩,fun vs w'=>∃(j:Nat) (a2:Option Addr) (n2 c2:Nat),vs=[.int .i64 (j:Int),.string b.token,.int .i64 b.stamp,.string b.array,.slice a2 n2 c2]∧j≤b.changes.length∧KpL [r] w w'∧k2<w'.heap.size∧RdAt (blkL a2++[k2]) w' r ((b.changes.drop j).flatMap encC)∧Acc tCell (k1::k2::K) w' (b.changes.take j) a2 n2 c2∧(∀y∈blkL a2,w.heap.size≤y)∧(∀y∈blkL a2,y≠k1),
  fun vs _=>match vs with|.int _ i::_=>b.changes.length - i.toNat|_=>0,fun _=>⟨0,none,0,0,rfl,by omega,hk7,by omega,hD7,Acc.nil' _ hKl,by simp[blkL],by simp[blkL]⟩,?_⟩
 rintro n4 s3 n5 s4 a2 k5 k6 w8 hkn8 ⟨j,_,_,_,hvs,hj,hk8,hk2l8,hD8,hA8,hnew8,hn18⟩
 simp only[List.cons.injEq,Value.int.injEq,Value.string.injEq,Value.slice.injEq,true_and,and_true]at hvs
 obtain⟨rfl,rfl,rfl,rfl,⟨rfl,rfl,rfl⟩⟩:=hvs
 have s8:=hk8.size
 constructor
 ·intro hjl hkn8'
  have hk1l8:=block_lt hkn8'.2
  have gj:j<b.changes.length:=by omega
  have hlA:=hA8.len
  rw[List.length_take,Nat.min_eq_left hj]at hlA
  have htk:=List.take_append_getElem gj
  have hce:=hall _ (List.getElem_mem gj)
  rw[List.drop_eq_getElem_cons gj,List.flatMap_cons]at hD8
  generalize hrX:(b.changes.drop (j+1)).flatMap encC=restX at *
  generalize b.changes[j]=c at *
  obtain⟨c1,c2,c3,c4⟩:=changeE_ok hce
  obtain⟨c5,c6⟩:=fits_len c3
  have hsd:=sch_dims hxs
  have h14:=dims_14 hsd.1
  unfold encC at hD8
  simp only[List.append_assoc]at hD8
  have hs8:=(hk8.blk s (block_lt hI.hs) (by simpa using hsr)).trans hI.hs
  have hMl:∀{w':World},w8.heap.size≤w'.heap.size→∀y∈blkL a2++(k1::k2::K),y<w'.heap.size:=by
   intro w' hle y hy
   rcases List.mem_append.1 hy with hy|hy
   ·have:=(hA8.blk_lt y hy).1;omega
   ·have:=hA8.mlt y hy;omega
  refine⟨(atR_ok (M:=blkL a2++(k1::k2::K)) hs8 rfl hsr (hI.arr.kp hk8 (by simpa using hrA)) hrA (hMl (Nat.le_refl _)) (by simp[hrK]) hD8 hk0 hx (by omega) (by omega) (ofB_in c2 (fun d hdm=>(dims_in hsd.1 d hdm).2.1) c1)).mono ?_⟩
  rintro e w9 ⟨a3,k7,k8,rfl,hw9,hD9,hA9,hnew9⟩
  have s89:=hw9.size
  refine⟨_,_,_,rfl,_,hw9,⟨⟨by simpa using k2r⟩,⟨by simpa using k1r⟩⟩,fun w10 hw10 _=>⟨(rValues_ok (M:=blkL a2++(k1::k2::K)) (hMl (by have:=hw10.size;omega)) (by simp[hrK]) (hD9.kp0 hw10) (by omega) fun v hv'=>Vl.canon_of (c6 v hv')).mono ?_⟩⟩
  rintro e w11 ⟨a4,k9,k10,rfl,hw11,hD11,hA11,hnew11⟩
  have hk811:KpL [r] w8 w11:=(hw9.trans (hw10.mono (by simp))).trans hw11
  have s811:=hk811.size
  refine⟨_,_,_,rfl,_,hw11,⟨⟨by simpa using k2r⟩,⟨by simpa using k1r⟩⟩,fun hkn11=>⟨⟨ldA_blk hkn11.1 3 _ rfl,trivial⟩,fun k11 hk11 w12 hw12 hkn12=>?_⟩⟩
  have hk812:KpL [r] w8 w12:=hk811.trans (hw12.mono (by simp))
  have hA12:=hA8.kp hk812 (by simp[hrK])
  have hR3:R (tSl (tI .i64)) (blkL a2++(k1::k2::K)) w12 c.at_ [.slice a3 k7 k8]:=(((hA9.done (by have:=hA9.len;omega)).kp0 hw10).kp hw11 (by simp[hrK])).kp0 hw12
  have hR4:R (tSl tVal) (blkL a2++(k1::k2::K)) w12 c.vals [.slice a4 k9 k10]:=(hA11.done (by have:=hA11.len;omega)).kp0 hw12
  refine ev_append1 apCh hA12 hkn12.1 (R.mkCell hR3 hR4) (by omega) fun a5 c5' w13 hC=>⟨_,_,_,rfl,_,hC.kp,⟨⟨fun hm=>by have:=(hA8.blk_lt _ hm).1;omega⟩,hA8.out (by simp),⟨fun hm=>hn18 _ hm rfl⟩⟩,ini_i64.2 (by omega),fun w14 hw14 hkn14=>⟨⟨j+1,a5,k5+1,c5',rfl,by omega,?_,block_lt hkn14.2.1,?_,?_,?_,?_⟩,by dsimp only;omega⟩⟩
  ·refine((hk8.trans hk812).more hC.kp fun y hy=>.inr (hnew8 y hy)).more hw14 fun y hy=>.inr (by simp at hy;have:=hk3.size;omega)
  ·rw[hrX]
   refine((hD11.kp0 hw12).to hC.kp (fun hm=>(hA8.blk_lt r hm).2 (by simp[hrK])) (fun y hy=>.inl (by simp[hy])) (N':=blkL a5++[k2]) fun y hy=>?_).to hw14 (by simpa using k2r.symm) (fun y hy=>.inl (by simp at hy;simp[hy])) fun y hy=>.inl hy
   rcases List.mem_append.1 hy with hy|hy
   ·exact(hC.own y hy).imp (fun h=>by simp[h]) id
   ·exact .inl (by simp at hy;simp[hy])
  ·rw[←htk];exact hC.acc.kp hw14 (by simp)
  ·intro y hy
   rcases hC.own y hy with hy|hy
   ·exact hnew8 y hy
   ·have:=hw12.size;omega
  ·intro y hy
   rcases hC.own y hy with hy|hy
   ·exact hn18 y hy
   ·have:=hw12.size;omega
 ·intro hjg w15 hw15 hkn15
  have hje:j=b.changes.length:=by omega
  subst hje
  rw[List.take_length]at hA8
  have hk1l8:w.heap.size≤k1:=by omega
  refine⟨_,_,_,rfl,hk8.more hw15 fun y hy=>.inr (by simp at hy;omega),?_⟩
  have hRc:=hA8.done (by have:=hA8.len;omega)
  exact(hRc.kp hw15 (by simp)).weak fun y hy=>by simp[hy]
end Go.Vc
namespace Go.Vc
open Go Go.Proofs
open Go.Value Go.Ending Go.IntKind
set_option maxRecDepth 100000
theorem sOpen_vc{d:Nat}{w:World}{R:Ending→World→Prop}
 (h :
 CallW Tryz.prog 62 #[pointer (some (Addr.mk d 0 none))] w fun e1 w1 =>
 ∃b1,e1=returned (Value.bool b1)∧
 KpL [] w w1∧
 ((!b1)=true→
 R (returned (tuple #[pointer none,int i64 1])) w1)∧
 ((!b1)=false→
 ∃b2,LdA w1 ((Addr.mk d 0 none).add 5) [Value.bool b2]∧
 (b2=true→
 R (returned (tuple #[pointer none,int i64 17])) w1)∧
 (b2=false→
 CallW Tryz.prog 63 #[pointer (some (Addr.mk d 0 none))] w1 fun e2 w2 =>
 ∃a1 n1,e2=returned (tuple #[pointer a1,int i64 n1])∧
 KpL [] w1 w2∧
 (n1≠0→
 R (returned (tuple #[pointer none,int i64 n1])) w2)∧
 (¬n1≠0→
 ∃d1,a1=some d1∧
 ∃n2,LdA w2 (d1.add 1) [int u64 n2]∧
 (n2=0→
 R (returned (tuple #[pointer none,int i64 7])) w2)∧
 (¬n2=0→
 Ev Tryz.prog (Instr.box 116 (agg #[pointer a1,int i64 0,slice none 0 0,map none,slice none 0 0,int i64 0])) w2 fun y1 w3 =>
 ∃d2,y1=pointer (some d2)∧
 ∃l1,KpL l1 w2 w3∧
 ∃(P1:List Value→World→Prop) (P2:List Value→World→Nat),P1 [] w3∧
 ∀w4,P1 [] w4→
 ∃d3,a1=some d3∧
 ∃n3,LdA w4 (d3.add 2) [int i64 n3]∧
 CallW Tryz.prog 64 #[pointer a1,int i64 n3] w4 fun e3 w5 =>
 ∃n4 a2 k1 k2 n5 n6,e3=returned (tuple #[int u8 n4,slice a2 k1 k2,int i64 n5,int i64 n6])∧
 ∃l2,KpL l2 w4 w5∧
 (n6≠0→
 R (returned (tuple #[pointer none,int i64 n6])) w5)∧
 (¬n6≠0→
 (n4=0→
 ∃m1,LdA w5 (d2.add 3) [map m1]∧
 (m1=none→
 R (returned (tuple #[pointer none,int i64 7])) w5)∧
 (¬m1=none→
 ∃d4,a1=some d4∧
 ∃n7,LdA w5 (d4.add 2) [int i64 n7]∧
 CallW Tryz.prog 57 #[pointer a1,int i64 n7] w5 fun e4 w6 =>
 ∃n8,e4=returned (int i64 n8)∧
 ∃l3,KpL l3 w5 w6∧
 (n8≠0→
 R (returned (tuple #[pointer none,int i64 n8])) w6)∧
 (¬n8≠0→
 CallW Tryz.prog 67 #[pointer (some d2)] w6 fun e5 w7 =>
 ∃a3,e5=returned (pointer a3)∧
 ∃l4,KpL l4 w6 w7∧
 R (returned (tuple #[pointer a3,int i64 0])) w7)))∧
 (¬n4=0→
 (n4=1→
 ∃m2,LdA w5 (d2.add 3) [map m2]∧
 (m2=none→
 ∀k3,w5.heap.size≤k3→
 ∀w8,KpL [] w5 w8→
 Hb w8 k3 #[slice a2 k1 k2] 137→
 CallW Tryz.prog 65 #[pointer (some d2),pointer (some (Addr.mk k3 0 none))] w8 fun e6 w9 =>
 e6=returned (tuple #[])∧
 ∃l5,KpL l5 w8 w9∧
 ∃d5,a1=some d5∧
 (∃l6,LdA w9 (d5.add 2) l6∧
 l6.length=1)∧
 NotFrozen w9 (d5.add 2) 1∧
 ∀w10,w10=stA w9 (d5.add 2) [int i64 n5] 0→
 P1 [] w10∧
 P2 [] w10<P2 [] w4)∧
 (¬m2=none→
 (n4=2→
 ∃m3,LdA w5 (d2.add 3) [map m3]∧
 (¬m3=none→
 ∀k4,w5.heap.size≤k4→
 ∀w11,KpL [] w5 w11→
 Hb w11 k4 #[slice a2 k1 k2] 137→
 CallW Tryz.prog 66 #[pointer (some d2),pointer (some (Addr.mk k4 0 none))] w11 fun e7 w12 =>
 ∃s1 n9 s2 a4 k5 k6,e7=returned (agg #[string s1,int i64 n9,string s2,slice a4 k5 k6])∧
 ∃l7,KpL l7 w11 w12∧
 CallW Tryz.prog 54 (#[pointer (some d2),agg #[string s1,int i64 n9,string s2,slice a4 k5 k6]]) w12 fun e8 w13 =>
 e8=returned (tuple #[])∧
 ∃l8,KpL l8 w12 w13∧
 ∃d6,a1=some d6∧
 (∃l9,LdA w13 (d6.add 2) l9∧
 l9.length=1)∧
 NotFrozen w13 (d6.add 2) 1∧
 ∀w14,w14=stA w13 (d6.add 2) [int i64 n5] 0→
 P1 [] w14∧
 P2 [] w14<P2 [] w4)∧
 (¬¬m3=none→
 R (returned (tuple #[pointer none,int i64 7])) w5))∧
 (¬n4=2→
 R (returned (tuple #[pointer none,int i64 7])) w5)))∧
 (¬n4=1→
 (n4=2→
 ∃m4,LdA w5 (d2.add 3) [map m4]∧
 (¬m4=none→
 ∀k7,w5.heap.size≤k7→
 ∀w15,KpL [] w5 w15→
 Hb w15 k7 #[slice a2 k1 k2] 137→
 CallW Tryz.prog 66 #[pointer (some d2),pointer (some (Addr.mk k7 0 none))] w15 fun e9 w16 =>
 ∃s3 n10 s4 a5 k8 k9,e9=returned (agg #[string s3,int i64 n10,string s4,slice a5 k8 k9])∧
 ∃l10,KpL l10 w15 w16∧
 CallW Tryz.prog 54 (#[pointer (some d2),agg #[string s3,int i64 n10,string s4,slice a5 k8 k9]]) w16 fun e10 w17 =>
 e10=returned (tuple #[])∧
 ∃l11,KpL l11 w16 w17∧
 ∃d7,a1=some d7∧
 (∃l12,LdA w17 (d7.add 2) l12∧
 l12.length=1)∧
 NotFrozen w17 (d7.add 2) 1∧
 ∀w18,w18=stA w17 (d7.add 2) [int i64 n5] 0→
 P1 [] w18∧
 P2 [] w18<P2 [] w4)∧
 (¬¬m4=none→
 R (returned (tuple #[pointer none,int i64 7])) w5))∧
 (¬n4=2→
 R (returned (tuple #[pointer none,int i64 7])) w5))))))))):Calls Tryz.prog 15 #[pointer (some (Addr.mk d 0 none))] w R :=
 fnc0 (an:={ loops:=[⟨11,[],[2,3,7,8,9,10,39,40,41,42,43,44,45,46,47,48,49,50,51,52,53,54,55,56,57,58,59,60,61,62,63,64,65,66,67,68,69,70,71,72,73,74,75,76,77,78,79,80,81,82,83,84,85,86,87,88,89,90,91,92],[4]⟩],muts:=[65,66,54,64,57,67],all:=true,lim:=3 }) (args:=[.a (.c (.v (.pointer (some ⟨d,0,none⟩))))]) Tryz_ok Tryz.func15 (by kernel_rfl) rfl rfl h
theorem sCompact_vc{s:Nat}{w:World}{R:Ending→World→Prop}
 (h :
 ∀k1,w.heap.size≤k1→
 ∀w1,KpL [] w w1→
 Hb w1 k1 #[pointer (some (Addr.mk s 0 none))] 41→
 CallW Tryz.prog 45 #[pointer (some (Addr.mk s 0 none))] w1 fun e1 w2 =>
 ∃n1,e1=returned (int i64 n1)∧
 KpL [] w1 w2∧
 (n1≠0→
 Hb w2 k1 #[pointer (some (Addr.mk s 0 none))] 41→
 R (returned (int i64 n1)) w2)∧
 (¬n1≠0→
 ∃a1,LdA w2 ((Addr.mk s 0 none).add 0) [pointer a1]∧
 ∃d1,a1=some d1∧
 ∃a2,LdA w2 (d1.add 0) [pointer a2]∧
 ∃a3,LdA w2 ((Addr.mk s 0 none).add 0) [pointer a3]∧
 ∃d2,a3=some d2∧
 ∃n2,LdA w2 (d2.add 1) [int u64 n2]∧
 (∀w3,KpL [] w2 w3→
 Hb w3 k1 #[pointer (some (Addr.mk s 0 none))] 41→
 Ev Tryz.prog (Instr.box 121 (agg #[pointer a2,int u64 (u64.wrap (n2+1)),int i64 0])) w3 fun y1 w4 =>
 ∃d3,y1=pointer (some d3)∧
 ∃l1,KpL l1 w3 w4∧
 NotIn k1 l1∧
 ∀k2,w4.heap.size≤k2→
 ∀k3,w4.heap.size≤k3→
 ∀w5,KpL [] w4 w5→
 Hb w5 k3 #[func (Fn.func 56) #[] #[pointer (some (Addr.mk k2 0 none))],func (Fn.func 58) #[] #[pointer (some (Addr.mk k2 0 none)),pointer (some (Addr.mk k1 0 none))],func (Fn.func 60) #[pointer (some d3)] #[]] 49∧
 Hb w5 k2 #[pointer (some d3)] 113∧
 Hb w5 k1 #[pointer (some (Addr.mk s 0 none))] 41→
 CallW Tryz.prog 55 #[slice (some (Addr.mk k3 0 none)) 3 3] w5 fun e2 w6 =>
 ∃n3,e2=returned (int i64 n3)∧
 ∃l2,KpL l2 w5 w6∧
 (NotIn k2 l2∧
 NotIn k1 l2)∧
 (n3≠0→
 Hb w6 k2 #[pointer (some d3)] 113∧
 Hb w6 k1 #[pointer (some (Addr.mk s 0 none))] 41→
 CallW Tryz.prog 51 #[pointer (some (Addr.mk s 0 none)),int i64 n3] w6 fun e3 w7 =>
 ∃n4,e3=returned (int i64 n4)∧
 ∃l3,KpL l3 w6 w7∧
 (NotIn k2 l3∧
 NotIn k1 l3)∧
 (Hb w7 k2 #[pointer (some d3)] 113∧
 Hb w7 k1 #[pointer (some (Addr.mk s 0 none))] 41→
 R (returned (int i64 n4)) w7))∧
 (¬n3≠0→
 ∀w8,KpL [] w6 w8→
 Hb w8 k2 #[pointer (some d3)] 113∧
 Hb w8 k1 #[pointer (some (Addr.mk s 0 none))] 41→
 CallW Tryz.prog 61 #[pointer (some (Addr.mk s 0 none))] w8 fun e4 w9 =>
 ∃n5,e4=returned (int i64 n5)∧
 KpL [] w8 w9∧
 (Hb w9 k2 #[pointer (some d3)] 113∧
 Hb w9 k1 #[pointer (some (Addr.mk s 0 none))] 41→
 (∃l4,LdA w9 ((Addr.mk s 0 none).add 0) l4∧
 l4.length=1)∧
 NotFrozen w9 ((Addr.mk s 0 none).add 0) 1∧
 (NotIn k2 [s]∧
 NotIn k1 [s])∧
 ∀w10,w10=stA w9 ((Addr.mk s 0 none).add 0) [pointer (some d3)] 0→
 Hb w10 k2 #[pointer (some d3)] 113∧
 Hb w10 k1 #[pointer (some (Addr.mk s 0 none))] 41→
 (LdA w10 (Addr.mk k1 0 none) [pointer (some (Addr.mk s 0 none))]∧
 True)∧
 (Hb w10 k2 #[pointer (some d3)] 113∧
 Hb w10 k1 #[pointer (some (Addr.mk s 0 none))] 41→
 (∃l5,LdA w10 ((Addr.mk s 0 none).add 5) l5∧
 l5.length=1)∧
 NotFrozen w10 ((Addr.mk s 0 none).add 5) 1∧
 (NotIn k2 [s]∧
 NotIn k1 [s])∧
 ∀w11,w11=stA w10 ((Addr.mk s 0 none).add 5) [int i64 n5] 0→
 Hb w11 k2 #[pointer (some d3)] 113∧
 Hb w11 k1 #[pointer (some (Addr.mk s 0 none))] 41→
 R (returned (int i64 0)) w11))))∧
 ∀k4,w2.heap.size≤k4→
 ∀w12,KpL [] w2 w12→
 Hb w12 k4 #[pointer none] 113∧
 Hb w12 k1 #[pointer (some (Addr.mk s 0 none))] 41→
 Ev Tryz.prog (Instr.box 121 (agg #[pointer a2,int u64 (u64.wrap (n2+1)),int i64 0])) w12 fun y2 w13 =>
 ∃d4,y2=pointer (some d4)∧
 ∃l6,KpL l6 w12 w13∧
 (NotIn k4 l6∧
 NotIn k1 l6)∧
 ∀k5,w13.heap.size≤k5→
 ∀w14,KpL [k4] w13 w14→
 Hb w14 k5 #[func (Fn.func 56) #[] #[pointer (some (Addr.mk k4 0 none))],func (Fn.func 58) #[] #[pointer (some (Addr.mk k4 0 none)),pointer (some (Addr.mk k1 0 none))],func (Fn.func 60) #[pointer (some d4)] #[]] 49∧
 Hb w14 k4 #[pointer (some d4)] 113∧
 Hb w14 k1 #[pointer (some (Addr.mk s 0 none))] 41→
 CallW Tryz.prog 55 #[slice (some (Addr.mk k5 0 none)) 3 3] w14 fun e5 w15 =>
 ∃n6,e5=returned (int i64 n6)∧
 ∃l7,KpL l7 w14 w15∧
 (NotIn k4 l7∧
 NotIn k1 l7)∧
 (n6≠0→
 Hb w15 k4 #[pointer (some d4)] 113∧
 Hb w15 k1 #[pointer (some (Addr.mk s 0 none))] 41→
 CallW Tryz.prog 51 #[pointer (some (Addr.mk s 0 none)),int i64 n6] w15 fun e6 w16 =>
 ∃n7,e6=returned (int i64 n7)∧
 ∃l8,KpL l8 w15 w16∧
 (NotIn k4 l8∧
 NotIn k1 l8)∧
 (Hb w16 k4 #[pointer (some d4)] 113∧
 Hb w16 k1 #[pointer (some (Addr.mk s 0 none))] 41→
 R (returned (int i64 n7)) w16))∧
 (¬n6≠0→
 ∀w17,KpL [] w15 w17→
 Hb w17 k4 #[pointer (some d4)] 113∧
 Hb w17 k1 #[pointer (some (Addr.mk s 0 none))] 41→
 CallW Tryz.prog 61 #[pointer (some (Addr.mk s 0 none))] w17 fun e7 w18 =>
 ∃n8,e7=returned (int i64 n8)∧
 KpL [] w17 w18∧
 (Hb w18 k4 #[pointer (some d4)] 113∧
 Hb w18 k1 #[pointer (some (Addr.mk s 0 none))] 41→
 (∃l9,LdA w18 ((Addr.mk s 0 none).add 0) l9∧
 l9.length=1)∧
 NotFrozen w18 ((Addr.mk s 0 none).add 0) 1∧
 (NotIn k4 [s]∧
 NotIn k1 [s])∧
 ∀w19,w19=stA w18 ((Addr.mk s 0 none).add 0) [pointer (some d4)] 0→
 Hb w19 k4 #[pointer (some d4)] 113∧
 Hb w19 k1 #[pointer (some (Addr.mk s 0 none))] 41→
 (LdA w19 (Addr.mk k1 0 none) [pointer (some (Addr.mk s 0 none))]∧
 True)∧
 (Hb w19 k4 #[pointer (some d4)] 113∧
 Hb w19 k1 #[pointer (some (Addr.mk s 0 none))] 41→
 (∃l10,LdA w19 ((Addr.mk s 0 none).add 5) l10∧
 l10.length=1)∧
 NotFrozen w19 ((Addr.mk s 0 none).add 5) 1∧
 (NotIn k4 [s]∧
 NotIn k1 [s])∧
 ∀w20,w20=stA w19 ((Addr.mk s 0 none).add 5) [int i64 n8] 0→
 Hb w20 k4 #[pointer (some d4)] 113∧
 Hb w20 k1 #[pointer (some (Addr.mk s 0 none))] 41→
 R (returned (int i64 0)) w20))))):Calls Tryz.prog 14 #[pointer (some (Addr.mk s 0 none))] w R :=
 fnc0 (an:={ muts:=[55,51],all:=true,lim:=2 }) (args:=[.a (.c (.v (.pointer (some ⟨s,0,none⟩))))]) Tryz_ok Tryz.func14 (by kernel_rfl) rfl rfl h
end Go.Vc
namespace Go.Vc
open Go Go.Proofs
theorem ev_box{P:Program}{T:TypeId}{cs:Array Value}{w:World}{Q:Value→World→Prop}
 (h:∀w',w'.heap[w.heap.size]?=some (.cells cs T (0,0))→KpL [] w w'→Q (.pointer (some ⟨w.heap.size,0,none⟩)) w'):Ev P (Instr.box T (.agg cs)) w Q:=by
 refine⟨_,w.alloc (.cells cs T (0,0)),?_,h _ ?_ ((KpL.refl _ _).alloc _)⟩
 ·simp only[Instr.box,newVar,newRow,Sem.run_bind,run_newObj,Result.andThen_ok,Sem.run_pure]
  rfl
 ·show(w.heap.push _)[w.heap.size]?=_
  simp
def Recs(k:Dk)(num:Int):Nat→List (Int×List Int)→Nat→Prop
 |i,[],e=>e=i∧(k.readRec num i).1=0∧(k.readRec num i).2.2.2=0
 |i,q::r,e=>∃nx,k.readRec num i=(q.1,q.2,nx,0)∧i<nx∧nx≤k.half∧Recs k num nx r e
def baseSto(arrays:List Nm)(bs:List Seen)(ps:List (Pl×Sta)):Sto:=⟨0,arrays,ps,bs,1+8*arrays.length+3*ps.length+bs.length⟩
def Sto.commits(st:Sto)(l:List Bt):Sto:=l.foldl Sto.commit st
structure StoJ (arrays:List Nm) (j:Nat) (st:Sto):Prop where
 arr:st.arrays=arrays
 bn:st.batches.length≤1000+j
 pb:∀p∈st.places,0≤p.2.batch∧p.2.batch≤st.batches.length
 u0:0≤st.use
 u1:st.use≤100000+50*j
theorem StoJ.commit{arrays:List Nm}{j:Nat}{st:Sto}{b:Bt}(h:StoJ arrays j st)(hb:BtOk st b):StoJ arrays (j+1) (st.commit b):=by
 have h2:=hb.c2
 refine⟨h.arr,by show(st.batches++[b.seen]).length≤_;have:=h.bn;simp;omega,fun p hp=>?_,by show 0≤st.use+b.weight;have:=h.u0;unfold Bt.weight;omega,by show st.use+b.weight≤_;have:=h.u1;unfold Bt.weight;omega⟩
 have hl:((st.commit b).batches.length:Nat)=st.batches.length+1:=by show(st.batches++[b.seen]).length=_;simp
 rw[hl]
 rcases putPs_mem (show p∈putPs (st.batches++[b.seen]) (st.batches.length+1:Nat) (findA_ st.arrays b.array) st.places b.changes from hp) with ⟨c,_,rfl⟩|hp
 ·simp;omega
 ·have:=h.pb p hp;omega
theorem BtOk.of_arr{st st':Sto}{b:Bt}(h:BtOk st b)(e:st'.arrays=st.arrays):BtOk st' b:=by
 obtain⟨a1,a2,a3,a4,a5,a6,a7,a8⟩:=h
 exact⟨a1,a2,a3,by rw[e];exact a4,a5,a6,by rw[e];exact a7,by rw[e];exact a8⟩
def mOf(l h:Nat)(w:World):Nat:=match w.heap[l]? with
 |some (Obj.cells arr _ _)=>match arr[2]? with
  |some (Value.int _ n)=>h+1 - n.toNat
  |_=>0
 |_=>0
theorem mOf_at{w:World}{l d h n:Nat}{num:Int}(hl:LogAt w l d num n):mOf l h w=h+1 - n:=by
 unfold mOf
 unfold LogAt at hl
 rw[hl]
 rfl
theorem LogAt.ld1{w:World}{l d:Nat}{num nxt:Int}(h:LogAt w l d num nxt):LdA w ((⟨l,0,none⟩:Addr).add 1) [.int .u64 num]:=by rw[add_lit];exact ldA_blk h 1 _ rfl
theorem LogAt.ld2{w:World}{l d:Nat}{num nxt:Int}(h:LogAt w l d num nxt):LdA w ((⟨l,0,none⟩:Addr).add 2) [.int .i64 nxt]:=by rw[add_lit];exact ldA_blk h 2 _ rfl
theorem LogAt.set2{w:World}{l d:Nat}{num nxt:Int}(h:LogAt w l d num nxt)(n:Int):LogAt (stA w ((⟨l,0,none⟩:Addr).add 2) [.int .i64 n] 0) l d num n:=by rw[add_lit];exact stA_ld (off:=2) (l:=[_]) h (by simp)
theorem LogAt.kp2{w:World}{l d:Nat}{num nxt:Int}(_:LogAt w l d num nxt)(n:Int):KpL [l] w (stA w ((⟨l,0,none⟩:Addr).add 2) [.int .i64 n] 0):=by rw[add_lit];exact stA_kp w ⟨l,0+2,none⟩ _
theorem StoreAt.next{M F:List Nat}{w w':World}{s l d:Nat}{num nxt nxt':Int}{st:Sto}(h:StoreAt M w s l d num nxt st F)(hk:KpL [l] w w')(hl:LogAt w' l d num nxt'):StoreAt M w' s l d num nxt' st F:=by
 obtain⟨m,ra,rn,rc,qa,qn,qc,hI,hl0,rfl⟩:=h
 have hI':StoIn ([]++M) w s l st m ra rn rc qa qn qc:=hI
 exact⟨m,ra,rn,rc,qa,qn,qc,hI'.stepL (Fd:=[]) hk (fun b hb=>⟨.inl hb,by have:=hI.mlt b hb;have:=hk.size;omega⟩) (block_lt hl0),hl,rfl⟩
set_option maxHeartbeats 4000000 in
theorem sOpen_ok{M Fd:List Nat}{w:World}{d:Nat}{k:Dk}{arrays:List Nm}{bs:List Seen}{ps:List (Pl×Sta)}{bt:List Bt}{e:Nat}(h:DkAt M w d k Fd)(h2:2≤k.n)(hdn:k.down=false)(hpl:k.pend.length≤1000000)(hnz:k.newest≠0)(hnum:0≤k.newest)
 (hst:InI .i64 ((k.clear k.newest e).2.st+1))(hrec:Recs k k.newest 0 ((1,encBase arrays bs ps)::bt.map fun b=>(2,encB arrays b)) e)(hv:StoV (baseSto arrays bs ps))(hb:∀b∈bt,BtOk (baseSto arrays bs ps) b)(hbl:bt.length≤1000):
 Calls Tryz.prog 15 #[.pointer (some ⟨d,0,none⟩)] w fun en w' =>
  if (k.clear k.newest e).1≠0 then en=.returned (.tuple #[.pointer none,.int .i64 (k.clear k.newest e).1])∧∃Fd',DkAt M w' d (k.clear k.newest e).2 Fd'∧Own Fd w Fd' w'
  else ∃s l F Fd',en=.returned (.tuple #[.pointer (some ⟨s,0,none⟩),.int .i64 0])∧SysAt M w' s l d k.newest e { (baseSto arrays bs ps).commits bt with id:=(k.clear k.newest e).2.st+1 } { (k.clear k.newest e).2 with st:=(k.clear k.newest e).2.st+1 } F Fd'∧Own Fd w (F++Fd') w':=by
 have hmx:maxSl=140737488355328:=rfl
 obtain⟨ss,hs1,hs2,hs3⟩:=h.ok.secs
 have hhalf:=k.half_le
 have hMl:=h.mlt
 have hFl:=h.own_lt
 refine sOpen_vc ⟨(dIs_ok h).mono ?_⟩
 rintro en w1 ⟨rfl,hw1⟩
 refine⟨_,rfl,hw1,fun hc=>by simp at hc,fun _=>⟨k.down,(h.kp0 hw1).cell.1,fun hc=>(by rw[hdn]at hc;cases hc),fun _=>⟨(newest_ok (h.kp0 hw1) h2).mono ?_⟩⟩⟩
 rintro en w2 ⟨hw2,hres⟩
 rw[if_neg (by simp[hdn])]at hres
 obtain⟨l,rfl,hl2,hlnew,hnI⟩:=hres
 have hk02:=hw1.trans hw2
 generalize hN:k.newest=num at *
 have s02:=hk02.size
 have s1:=hw1.size
 refine⟨_,_,rfl,hw2,fun hc=>absurd rfl hc,fun _=>⟨⟨l,0,none⟩,rfl,num,hl2.ld1,fun hc=>absurd hc hnz,fun _=>ev_box fun w3 hs3' hw3=>⟨_,rfl,[],hw3,?_⟩⟩⟩
 have hk03:=hk02.trans hw3
 generalize hss:w2.heap.size=s at *
 have hll2:=block_lt hl2
 have hsl:s≠l:=by omega
 have hl3:=hl2.keep hw3 (by simp)
 have hs3'':SC w3 s l 0 none 0 0 none none 0 0 0:=hs3'
 have hFM:∀b∈Fd++M,b<w.heap.size:=by
  intro b hb
  rcases List.mem_append.1 hb with hb|hb
  ·exact(hFl b hb).1
  ·exact hMl b hb
 have hsM:s∉Fd++M:=fun hm=>by have:=hFM s hm;omega
 have hlM:l∉Fd++M:=fun hm=>by have:=hFM l hm;omega
 have hslt:=block_lt hs3'
 let A:World→Prop:=fun w'=>SC w' s l 0 none 0 0 none none 0 0 0∧LogAt w' l d num (0:Nat)
 let B:World→Prop:=fun w'=>∃(j i:Nat) (F:List Nat),j≤bt.length∧i≤k.half∧StoreAt (Fd++M) w' s l d num i ((baseSto arrays bs ps).commits (bt.take j)) F∧StoJ arrays j ((baseSto arrays bs ps).commits (bt.take j))∧(∀b∈F,w.heap.size≤b)∧Recs k num i ((bt.drop j).map fun b=>(2,encB arrays b)) e
 refine⟨fun _ w'=>KpL [] w w'∧(A w'∨B w'),fun _ w'=>mOf l k.half w',⟨hk03,.inl ⟨hs3'',hl3⟩⟩,?_⟩
 rintro w4 ⟨hk04,hAB⟩
 have s04:=hk04.size
 have hdk:∀{w':World} {F:List Nat},KpL [] w w'→(∀b∈F,w.heap.size≤b)→(∀b∈F,b<w'.heap.size)→DkAt (F++M) w' d k Fd:=by
  intro w' F hk hF hF'
  refine h.step hk (by simp) fun b hb=>?_
  rcases List.mem_append.1 hb with hb|hb
  ·exact⟨.inr (hF b hb),hF' b hb⟩
  ·exact⟨.inl hb,by have:=hMl b hb;have:=hk.size;omega⟩
 have hD4:DkAt ([]++M) w4 d k Fd:=hdk hk04 (by simp) (by simp)
 rcases hAB with ⟨hsA,hlA⟩|⟨j,i,F,hj,hi,hSt,hJ,hFn,hR⟩
 ·obtain⟨nx,hrr,hnx1,hnx2,hR⟩:=hrec
  have hNl:∀b∈s::l::(Fd++M),b<w4.heap.size:=by
   intro b hb
   simp only[List.mem_cons]at hb
   rcases hb with rfl|rfl|hb
   ·exact block_lt hsA
   ·exact block_lt hlA
   ·have:=hFM b hb;omega
  refine⟨_,rfl,_,hlA.ld2,⟨(lRead_ok (N:=s::l::(Fd++M)) hD4 hlA h2 hnum hNl (i:=0) (by omega)).mono ?_⟩⟩
  rw[hrr]
  rintro en w5 ⟨a,n,c,rfl,hw5,hRb⟩
  have hs5:=hsA.keep hw5 (by simp)
  refine⟨_,_,_,_,_,_,rfl,_,hw5,fun hc=>absurd rfl hc,fun _=>⟨fun hc=>by simp at hc,fun _=>⟨fun _=>⟨_,hs5.ld3,fun _ k3 hk3 w8 hw8 hkn8=>?_,fun hc=>absurd rfl hc⟩,fun hc=>absurd rfl hc⟩⟩⟩
  have hl8:=(hlA.keep hw5 (by simp)).keep hw8 (by simp)
  have s5:=hw5.size
  have s8:=hw8.size
  have hrd:RdAt (s::(Fd++M)) w8 k3 (encBase arrays bs ps):=⟨a,n,c,137,hkn8,(hRb.fresh hw8 (N:=[k3]) (by simpa using hk3)).weak fun b hb=>by simp at hb ⊢;rcases hb with rfl|rfl|hb|hb<;>simp[*]⟩
  have hsl5:=block_lt hs5
  have hll5:=block_lt (hlA.keep hw5 (by simp))
  refine⟨(sRead_ok (st:=baseSto arrays bs ps) (hs5.keep hw8 (by simp)) hl8 (fun b hb=>by have:=hFM b hb;omega) hsl hsM hlM (by omega) (fun hm=>by have:=hFM k3 hm;omega) (by omega) hrd hv (ini_i64.2 (by show(-_:Int)≤(0:Int)∧(0:Int)≤_;omega)) (ini_i64.2 (by omega))).mono ?_⟩
  rintro en w9 ⟨rfl,hw9,F,hSt,hF⟩
  have hk08:=(hk04.trans hw5).trans hw8
  have hl9:=hSt.log
  have hk09:KpL [] w w9:=hk08.more hw9 fun b hb=>.inr (by simp at hb;rcases hb with rfl|rfl<;>omega)
  refine⟨rfl,_,hw9,⟨l,0,none⟩,rfl,⟨_,hl9.ld2,rfl⟩,by rw[add_lit];exact notFrozen hl9,?_⟩
  rintro w10 rfl
  have hk10:=hl9.kp2 (nx:Int)
  have hF':∀b∈F,w.heap.size≤b:=fun b hb=>by
   rcases hF b hb with rfl|rfl|hb
   ·omega
   ·omega
   ·have:=hk08.size;omega
  refine⟨⟨hk09.more hk10 fun b hb=>.inr (by simp at hb;omega),.inr ⟨0,nx,F,by omega,hnx2,hSt.next hk10 (hl9.set2 _),⟨rfl,by show bs.length≤_;have:=hv.bn;exact this,fun p hp=>?_,?_,?_⟩,hF',by simpa using hR⟩⟩,?_⟩
  ·have:=hv.pls p hp
   exact⟨this.b0,this.b1⟩
  ·show(0:Int)≤1+8*arrays.length+3*ps.length+bs.length;omega
  ·have h1:=hv.an
   have h2:=hv.pn
   have h3:=hv.bn
   have h1':arrays.length≤16:=h1
   have h2':ps.length≤4000:=h2
   have h3':bs.length≤1000:=h3
   show(1+8*(arrays.length:Int)+3*ps.length+bs.length)≤_;omega
  ·show mOf l k.half (stA w9 ((⟨l,0,none⟩:Addr).add 2) [.int .i64 (nx:Int)] 0)<mOf l k.half w4
   rw[mOf_at (hl9.set2 (nx:Int)),mOf_at hlA];omega
 ·have hlB:=hSt.log
  have hsB:∀{w':World},KpL [] w4 w'→∃m,LdA w' ((⟨s,0,none⟩:Addr).add 3) [.map (some m)]:=fun hk=>by
   obtain⟨m,ra,rn,rc,qa,qn,qc,hI,_,_⟩:=hSt
   exact⟨m,by rw[add_lit];exact ldA_blk ((hk.blk s (block_lt hI.hs) (by simp)).trans hI.hs) 3 _ rfl⟩
  have hDF:DkAt (F++M) w4 d k Fd:=hdk hk04 hFn fun b hb=>(hSt.own_lt b hb).1
  have hNl:∀b∈F++(Fd++M),b<w4.heap.size:=by
   intro b hb
   rcases List.mem_append.1 hb with hb|hb
   ·exact(hSt.own_lt b hb).1
   ·have:=hFM b hb;omega
  refine⟨_,rfl,_,hlB.ld2,⟨(lRead_ok (N:=F++(Fd++M)) hDF hlB h2 hnum hNl (i:=i) (by omega)).mono ?_⟩⟩
  rintro en w5 ⟨a,n,c,rfl,hw5,hRb⟩
  obtain⟨m,hm5⟩:=hsB hw5
  have s5:=hw5.size
  cases hbd:bt.drop j with
  |nil =>
   rw[hbd]at hR
   obtain⟨rfl,hq0,he0⟩:=hR
   have hje:bt.take j=bt:=List.take_of_length_le (by have:=congrArg List.length hbd;simp at this;omega)
   rw[hje]at hSt
   refine⟨_,_,_,_,_,_,rfl,_,hw5,fun hc=>absurd he0 hc,fun _=>⟨fun _=>⟨_,hm5,fun hc=>(by cases hc),fun _=>⟨_,rfl,_,(hlB.keep hw5 (by simp)).ld2,⟨(lClear_ok (hDF.kp0 hw5) (hlB.keep hw5 (by simp)) (List.mem_append_left _ hSt.lF) h2 hnum (by omega) hpl).mono ?_⟩⟩⟩,fun hc=>absurd hq0 hc⟩⟩
   rintro en w6 ⟨rfl,Fd',hD6,hO6⟩
   have hOw:Own Fd w Fd' w6:=(Own.of0 (hk04.trans hw5)).trans hO6
   refine⟨_,rfl,_,hO6.kp,fun hne=>?_,fun hz=>?_⟩
   ·rw[if_pos hne]
    exact⟨rfl,Fd',hD6.weak fun b hb=>by simp[hb],hOw⟩
   have hSt6:StoreAt (Fd'++M) w6 s l d num e ((baseSto arrays bs ps).commits bt) F:=(hSt.kp0 hw5).step hO6.kp (fun b hb=>by simp[hb]) fun b hb=>by
    rcases List.mem_append.1 hb with hb|hb
    ·exact⟨(hO6.new b hb).imp (fun h=>by simp[h]) id,(hD6.own_lt b hb).1⟩
    ·exact⟨.inl (by simp[hb]),hD6.mlt b (by simp[hb])⟩
   refine⟨(opened_ok hSt6 hD6 hst).mono ?_⟩
   rintro en w7 ⟨rfl,hS7,hD7,hO7⟩
   refine⟨_,rfl,_,hO7.kp,?_⟩
   rw[if_neg hz]
   refine⟨s,l,F,Fd',rfl,⟨hS7,hD7⟩,?_⟩
   refine⟨hOw.kp.more hO7.kp fun b hb=>?_,fun b hb=>?_⟩
   ·rcases List.mem_append.1 hb with hb|hb
    ·exact .inr (hFn b hb)
    ·exact hOw.new b hb
   ·rcases List.mem_append.1 hb with hb|hb
    ·exact .inr (hFn b hb)
    ·exact hOw.new b hb
  |cons b br =>
   rw[hbd,List.map_cons]at hR
   obtain⟨nx,hrr,hnx1,hnx2,hR⟩:=hR
   rw[hrr]at hRb ⊢
   have hjl:j<bt.length:=by have:=congrArg List.length hbd;simp at this;omega
   have hbj:bt[j]=b:=by rw[List.drop_eq_getElem_cons hjl]at hbd;exact(List.cons.inj hbd).1
   have hbr:bt.drop (j+1)=br:=by rw[List.drop_eq_getElem_cons hjl]at hbd;exact(List.cons.inj hbd).2
   have htk:bt.take (j+1)=bt.take j++[b]:=by rw[←hbj,List.take_append_getElem hjl]
   have hbo:=hb b (by rw[←hbj];exact List.getElem_mem hjl)
   generalize hsj:(baseSto arrays bs ps).commits (bt.take j)=stj at *
   have hbo':BtOk stj b:=hbo.of_arr hJ.arr
   have hnext:(baseSto arrays bs ps).commits (bt.take (j+1))=stj.commit b:=by
    rw[htk]
    unfold Sto.commits at hsj ⊢
    rw[List.foldl_append,hsj]
    rfl
   refine⟨_,_,_,_,_,_,rfl,_,hw5,fun hc=>absurd rfl hc,fun _=>⟨fun hc=>by simp at hc,fun _=>⟨fun hc=>by simp at hc,fun _=>⟨fun _=>⟨_,hm5,fun _ k7 hk7 w15 hw15 hkn15=>?_,fun hc=>absurd (by simp) hc⟩,fun hc=>absurd rfl hc⟩⟩⟩⟩
   have s15:=hw15.size
   have hk415:KpL [] w4 w15:=hw5.trans hw15
   have k7l:=block_lt hkn15
   have hS15:StoreAt (k7::(Fd++M)) w15 s l d num i stj F:=hSt.step hk415 (by simp) fun x hx=>by
    rcases List.mem_cons.1 hx with rfl|hx
    ·exact⟨.inr (by omega),k7l⟩
    ·exact⟨.inl hx,by have:=hFM x hx;omega⟩
   have hrd:RdAt [] w15 k7 (encB stj.arrays b):=by
    rw[hJ.arr]
    exact⟨a,n,c,137,hkn15,(hRb.fresh hw15 (N:=[k7]) (by simpa using hk7)).weak fun x hx=>by simp at hx;simp[hx]⟩
   have hsch:∀x∈stj.arrays,schemaE x.arr.dims x.arr.attrs=0:=by rw[hJ.arr];exact hv.sch
   have han:stj.arrays.length≤16:=by rw[hJ.arr];exact hv.an
   have hKl:∀x∈F++[k7],x<w15.heap.size:=by
    intro x hx
    rcases List.mem_append.1 hx with hx|hx
    ·have:=(hSt.own_lt x hx).1;omega
    ·simp at hx;omega
   refine⟨(sBatch_ok (K:=F++[k7]) hS15 (by simp) hKl (by simp) hrd hsch han hbo').mono ?_⟩
   rintro en w16 ⟨ca,cn,cc,rfl,hw16,hRc⟩
   have hS16:=hS15.step (M':=k7::(Fd++M)) hw16 (by simp) fun x hx=>⟨.inl hx,by have:=hS15.mlt x hx;have:=hw16.size;omega⟩
   obtain⟨x,hx,hall⟩:=hbo'.arr
   have hchg:=fun c hcm=>change_len (hsch x (List.mem_of_getElem? hx)) (hall c hcm)
   have htk12:=nameOk_12 hbo'.tok
   have c2:=hbo'.c2
   have t0:=hbo'.s0
   have t1:=hbo'.s1
   have u0:=hJ.u0
   have u1:=hJ.u1
   have bn:=hJ.bn
   refine⟨_,_,_,_,_,_,rfl,_,hw16,⟨(sCommit_ok hS16 hRc (by omega) (ini_i64.2 (by omega)) (by omega) (fun c hcm=>⟨(hchg c hcm).1,by have:=(hchg c hcm).2.1;omega⟩) (by omega) hJ.pb (ini_i64.2 (by have:=hbo'.k0;have:=findA_lt stj.arrays b.array;omega)) ⟨u0,by omega⟩).mono ?_⟩⟩
   rintro en w17 ⟨rfl,F',hS17,hO17⟩
   have hl17:=hS17.log
   refine⟨rfl,_,hO17.kp,⟨l,0,none⟩,rfl,⟨_,hl17.ld2,rfl⟩,by rw[add_lit];exact notFrozen hl17,?_⟩
   rintro w18 rfl
   have hk18:=hl17.kp2 (nx:Int)
   have hkw16:KpL [] w w16:=(hk04.trans hk415).more hw16 fun y hy=>.inr (by simp at hy;omega)
   have s16:=hkw16.size
   have hF':∀y∈F',w.heap.size≤y:=fun y hy=>(hO17.new y hy).elim (hFn y) fun h=>by omega
   refine⟨⟨(hkw16.more hO17.kp fun y hy=>.inr (hFn y hy)).more hk18 fun y hy=>.inr (by simp at hy;omega),.inr ⟨j+1,nx,F',by omega,hnx2,?_,?_,hF',by rw[hbr];exact hR⟩⟩,?_⟩
   ·rw[hnext]
    exact(hS17.weak fun y hy=>by simp only[List.mem_cons];exact .inr hy).next hk18 (hl17.set2 _)
   ·rw[hnext]
    exact hJ.commit hbo'
   ·show mOf l k.half (stA w17 ((⟨l,0,none⟩:Addr).add 2) [.int .i64 (nx:Int)] 0)<mOf l k.half w4
    rw[mOf_at (hl17.set2 (nx:Int)),mOf_at hlB];omega
end Go.Vc
namespace Go.Vc
open Go Go.Proofs
open Go.Value Go.Ending Go.IntKind
set_option maxRecDepth 100000
theorem cClear_vc{v l:Nat}{w:World}{R:Ending→World→Prop}
 (hk:Hb w v #[pointer (some (Addr.mk l 0 none))] 113)
 (h :
 Hb w v #[pointer (some (Addr.mk l 0 none))] 113→
 CallW Tryz.prog 57 #[pointer (some (Addr.mk l 0 none)),int i64 0] w fun e1 w1 =>
 ∃n1,e1=returned (int i64 n1)∧
 ∃l1,KpL l1 w w1∧
 NotIn v l1∧
 (Hb w1 v #[pointer (some (Addr.mk l 0 none))] 113→
 R (returned (int i64 n1)) w1)):Calls Tryz.prog 56 #[pointer (some (Addr.mk v 0 none))] w R :=
 fncK (an:={ muts:=[57],all:=true }) (args:=[.a (.c (.loc 0 0))]) (rho:=[v]) (hp:=[(0,113,[.v (.pointer (some ⟨l,0,none⟩))])]) Tryz_ok Tryz.func56 (by kernel_rfl) rfl rfl hk (by simp) (by simpa using block_lt hk) rfl (by simp) h
theorem cBase_vc{v l sv s:Nat}{w:World}{R:Ending→World→Prop}
 (hk:Hb w v #[pointer (some (Addr.mk l 0 none))] 113∧
 Hb w sv #[pointer (some (Addr.mk s 0 none))] 41)
 (hnd:([v,sv]:List Nat).Nodup)(hlt:∀b∈([v,sv]:List Nat),b<w.heap.size)
 (h :
 ∀w1,KpL [] w w1→
 Hb w1 v #[pointer (some (Addr.mk l 0 none))] 113∧
 Hb w1 sv #[pointer (some (Addr.mk s 0 none))] 41→
 CallW Tryz.prog 59 #[pointer (some (Addr.mk s 0 none))] w1 fun e1 w2 =>
 ∃a1 k1 k2,e1=returned (slice a1 k1 k2)∧
 KpL [] w1 w2∧
 (Hb w2 v #[pointer (some (Addr.mk l 0 none))] 113∧
 Hb w2 sv #[pointer (some (Addr.mk s 0 none))] 41→
 CallW Tryz.prog 52 #[pointer (some (Addr.mk l 0 none)),int u8 1,slice a1 k1 k2] w2 fun e2 w3 =>
 ∃n1,e2=returned (int i64 n1)∧
 ∃l1,KpL l1 w2 w3∧
 (NotIn v l1∧
 NotIn sv l1)∧
 (Hb w3 v #[pointer (some (Addr.mk l 0 none))] 113∧
 Hb w3 sv #[pointer (some (Addr.mk s 0 none))] 41→
 R (returned (int i64 n1)) w3))):Calls Tryz.prog 58 #[pointer (some (Addr.mk v 0 none)),pointer (some (Addr.mk sv 0 none))] w R :=
 fncK (an:={ muts:=[52],all:=true }) (args:=[.a (.c (.loc 0 0)),.a (.c (.loc 1 0))]) (rho:=[v,sv]) (hp:=[(0,113,[.v (.pointer (some ⟨l,0,none⟩))]),(1,41,[.v (.pointer (some ⟨s,0,none⟩))])]) Tryz_ok Tryz.func58 (by kernel_rfl) rfl rfl hk hnd hlt rfl (by simp) h
theorem fZero_vc{v d:Nat}{w:World}{R:Ending→World→Prop}
 (hk:Hb w v #[pointer (some (Addr.mk d 0 none))] 40)
 (h :
 Hb w v #[pointer (some (Addr.mk d 0 none))] 40→
 CallW Tryz.prog 80 #[pointer (some (Addr.mk d 0 none))] w fun e1 w1 =>
 ∃n1,e1=returned (int i64 n1)∧
 KpL [] w w1∧
 ∃(P1:List Value→World→Prop) (P2:List Value→World→Nat),(Hb w1 v #[pointer (some (Addr.mk d 0 none))] 40→
 P1 [int i64 0] w1)∧
 ∀n2 w2,P1 [int i64 n2] w2→
 (n2<n1→
 ∀w3,KpL [] w2 w3→
 Hb w3 v #[pointer (some (Addr.mk d 0 none))] 40→
 Ev Tryz.prog (Instr.makeSlice 33 (int i64 64) (int i64 64)) w3 fun y1 w4 =>
 ∃a1 k1 k2,y1=slice a1 k1 k2∧
 ∃l1,KpL l1 w3 w4∧
 NotIn v l1∧
 (Hb w4 v #[pointer (some (Addr.mk d 0 none))] 40→
 (LdA w4 (Addr.mk v 0 none) [pointer (some (Addr.mk d 0 none))]∧
 True)∧
 (Hb w4 v #[pointer (some (Addr.mk d 0 none))] 40→
 CallW Tryz.prog 32 #[pointer (some (Addr.mk d 0 none)),int i64 n2,slice a1 k1 k2] w4 fun e2 w5 =>
 ∃n3,e2=returned (int i64 n3)∧
 ∃l2,KpL l2 w4 w5∧
 NotIn v l2∧
 (n3≠0→
 Hb w5 v #[pointer (some (Addr.mk d 0 none))] 40→
 R (returned (int i64 n3)) w5)∧
 (¬n3≠0→
 InI i64 (n2+1)∧
 (Hb w5 v #[pointer (some (Addr.mk d 0 none))] 40→
 P1 [int i64 (n2+1)] w5∧
 P2 [int i64 (n2+1)] w5<P2 [int i64 n2] w2)))))∧
 (¬n2<n1→
 Hb w2 v #[pointer (some (Addr.mk d 0 none))] 40→
 CallW Tryz.prog 37 #[pointer (some (Addr.mk d 0 none))] w2 fun e3 w6 =>
 ∃n4,e3=returned (int i64 n4)∧
 ∃l3,KpL l3 w2 w6∧
 NotIn v l3∧
 (Hb w6 v #[pointer (some (Addr.mk d 0 none))] 40→
 R (returned (int i64 n4)) w6))):Calls Tryz.prog 79 #[pointer (some (Addr.mk v 0 none))] w R :=
 fncK (an:={ loops:=[⟨2,[6],[1,2,3,7,8,9,10,11,12,13,14,15,16],[]⟩],muts:=[32,37],all:=true }) (args:=[.a (.c (.loc 0 0))]) (rho:=[v]) (hp:=[(0,40,[.v (.pointer (some ⟨d,0,none⟩))])]) Tryz_ok Tryz.func79 (by kernel_rfl) rfl rfl hk (by simp) (by simpa using block_lt hk) rfl (by simp) h
theorem fBase_vc{v s:Nat}{w:World}{R:Ending→World→Prop}
 (hk:Hb w v #[pointer (some (Addr.mk s 0 none))] 41)
 (h :
 ∃a1,LdA w ((Addr.mk s 0 none).add 0) [pointer a1]∧
 ∀w1,KpL [] w w1→
 Hb w1 v #[pointer (some (Addr.mk s 0 none))] 41→
 CallW Tryz.prog 59 #[pointer (some (Addr.mk s 0 none))] w1 fun e1 w2 =>
 ∃a2 k1 k2,e1=returned (slice a2 k1 k2)∧
 KpL [] w1 w2∧
 (Hb w2 v #[pointer (some (Addr.mk s 0 none))] 41→
 CallW Tryz.prog 52 #[pointer a1,int u8 1,slice a2 k1 k2] w2 fun e2 w3 =>
 ∃n1,e2=returned (int i64 n1)∧
 ∃l1,KpL l1 w2 w3∧
 NotIn v l1∧
 (Hb w3 v #[pointer (some (Addr.mk s 0 none))] 41→
 R (returned (int i64 n1)) w3))):Calls Tryz.prog 81 #[pointer (some (Addr.mk v 0 none))] w R :=
 fncK (an:={ muts:=[52],all:=true }) (args:=[.a (.c (.loc 0 0))]) (rho:=[v]) (hp:=[(0,41,[.v (.pointer (some ⟨s,0,none⟩))])]) Tryz_ok Tryz.func81 (by kernel_rfl) rfl rfl hk (by simp) (by simpa using block_lt hk) rfl (by simp) h
theorem sFormat_vc{d:Nat}{dba:Option Addr}{dbn dbc:Nat}{w:World}{R:Ending→World→Prop}
 (h :
 ∀k1,w.heap.size≤k1→
 ∀w1,KpL [] w w1→
 Hb w1 k1 #[pointer (some (Addr.mk d 0 none))] 40→
 CallW Tryz.prog 62 #[pointer (some (Addr.mk d 0 none))] w1 fun e1 w2 =>
 ∃b1,e1=returned (Value.bool b1)∧
 KpL [] w1 w2∧
 ((!b1)=true→
 Hb w2 k1 #[pointer (some (Addr.mk d 0 none))] 40→
 R (returned (tuple #[pointer none,int i64 1])) w2)∧
 ((!b1)=false→
 Hb w2 k1 #[pointer (some (Addr.mk d 0 none))] 40→
 CallW Tryz.prog 42 #[slice dba dbn dbc] w2 fun e2 w3 =>
 ∃n1,e2=returned (int i64 n1)∧
 KpL [] w2 w3∧
 (¬n1≠0→
 ((↑dbn:Int)=(0:Int)→
 Hb w3 k1 #[pointer (some (Addr.mk d 0 none))] 40→
 R (returned (tuple #[pointer none,int i64 2])) w3)∧
 (¬(↑dbn:Int)=(0:Int)→
 Hb w3 k1 #[pointer (some (Addr.mk d 0 none))] 40→
 ∃b2,LdA w3 ((Addr.mk d 0 none).add 5) [Value.bool b2]∧
 (b2=true→
 Hb w3 k1 #[pointer (some (Addr.mk d 0 none))] 40→
 R (returned (tuple #[pointer none,int i64 17])) w3)∧
 (b2=false→
 Hb w3 k1 #[pointer (some (Addr.mk d 0 none))] 40→
 Ev Tryz.prog (Instr.box 121 (agg #[pointer (some (Addr.mk d 0 none)),int u64 1,int i64 0])) w3 fun y1 w4 =>
 ∃d1,y1=pointer (some d1)∧
 ∃l1,KpL l1 w3 w4∧
 NotIn k1 l1∧
 (Hb w4 k1 #[pointer (some (Addr.mk d 0 none))] 40→
 Ev Tryz.prog (Instr.makeMap 114 none) w4 fun y2 w5 =>
 ∃m1,y2=map m1∧
 ∃l2,KpL l2 w4 w5∧
 NotIn k1 l2∧
 (Hb w5 k1 #[pointer (some (Addr.mk d 0 none))] 40→
 Ev Tryz.prog (Instr.box 116 (agg #[pointer (some d1),int i64 0,slice none 0 0,map m1,slice none 0 0,int i64 0])) w5 fun y3 w6 =>
 ∃d2,y3=pointer (some d2)∧
 ∃l3,KpL l3 w5 w6∧
 NotIn k1 l3∧
 ∀k2,w6.heap.size≤k2→
 ∃(P1:List Value→World→Prop) (P2:List Value→World→Nat),(∀w7,KpL [] w6 w7→
 Hb w7 k2 #[pointer (some d2)] 41∧
 Hb w7 k1 #[pointer (some (Addr.mk d 0 none))] 40→
 P1 [int i64 0] w7)∧
 ∀n2 w8,P1 [int i64 n2] w8→
 (n2<(↑dbn:Int)→
 ∃d3,dba=some d3∧
 0≤n2∧
 n2<(↑dbn:Int)∧
 (Hb w8 k2 #[pointer (some d2)] 41∧
 Hb w8 k1 #[pointer (some (Addr.mk d 0 none))] 40→
 ∃s1 a1 k3 k4 a2 k5 k6 a3 k7 k8,LdA w8 (d3.add (n2.toNat*4)) [string s1,slice a1 k3 k4,slice a2 k5 k6,slice a3 k7 k8]∧
 (Hb w8 k2 #[pointer (some d2)] 41∧
 Hb w8 k1 #[pointer (some (Addr.mk d 0 none))] 40→
 Ev Tryz.prog (Instr.alloc 60 true (tuple #[])) w8 fun y4 w9 =>
 ∃d4,y4=pointer (some d4)∧
 ∃l4,KpL l4 w8 w9∧
 (NotIn k2 l4∧
 NotIn k1 l4)∧
 (Hb w9 k2 #[pointer (some d2)] 41∧
 Hb w9 k1 #[pointer (some (Addr.mk d 0 none))] 40→
 (∃l5,LdA w9 d4 l5∧
 l5.length=4)∧
 NotFrozen w9 d4 4∧
 (NotIn k2 [d4.block]∧
 NotIn k1 [d4.block])∧
 ∀w10,w10=stA w9 d4 [string s1,slice a1 k3 k4,slice a2 k5 k6,slice a3 k7 k8] 0→
 Hb w10 k2 #[pointer (some d2)] 41∧
 Hb w10 k1 #[pointer (some (Addr.mk d 0 none))] 40→
 ∃a4 k9 k10,LdA w10 ((d4.add 1).add 0) [slice a4 k9 k10]∧
 (Hb w10 k2 #[pointer (some d2)] 41∧
 Hb w10 k1 #[pointer (some (Addr.mk d 0 none))] 40→
 ∃a5 k11 k12,LdA w10 ((d4.add 1).add 1) [slice a5 k11 k12]∧
 (Hb w10 k2 #[pointer (some d2)] 41∧
 Hb w10 k1 #[pointer (some (Addr.mk d 0 none))] 40→
 CallW Tryz.prog 69 #[slice a4 k9 k10,slice a5 k11 k12,slice none 0 0] w10 fun e3 w11 =>
 ∃a6 k13 k14 a7 k15 k16 a8 k17 k18 n3,e3=returned (tuple #[agg #[slice a6 k13 k14,slice a7 k15 k16,slice a8 k17 k18],int i64 n3])∧
 KpL [] w10 w11∧
 (Hb w11 k2 #[pointer (some d2)] 41∧
 Hb w11 k1 #[pointer (some (Addr.mk d 0 none))] 40→
 Ev Tryz.prog (Instr.alloc 58 true (tuple #[])) w11 fun y5 w12 =>
 ∃d5,y5=pointer (some d5)∧
 ∃l6,KpL l6 w11 w12∧
 (NotIn k2 l6∧
 NotIn k1 l6)∧
 (Hb w12 k2 #[pointer (some d2)] 41∧
 Hb w12 k1 #[pointer (some (Addr.mk d 0 none))] 40→
 (∃l7,LdA w12 d5 l7∧
 l7.length=3)∧
 NotFrozen w12 d5 3∧
 (NotIn k2 [d5.block]∧
 NotIn k1 [d5.block])∧
 ∀w13,w13=stA w12 d5 [slice a6 k13 k14,slice a7 k15 k16,slice a8 k17 k18] 0→
 (n3≠0→
 Hb w13 k2 #[pointer (some d2)] 41∧
 Hb w13 k1 #[pointer (some (Addr.mk d 0 none))] 40→
 R (returned (tuple #[pointer none,int i64 n3])) w13)∧
 (¬n3≠0→
 ∃a9 k19 k20,LdA w13 (d2.add 2) [slice a9 k19 k20]∧
 ∃s2,LdA w13 (d4.add 0) [string s2]∧
 ∃a10 k21 k22 a11 k23 k24 a12 k25 k26,LdA w13 d5 [slice a10 k21 k22,slice a11 k23 k24,slice a12 k25 k26]∧
 ∀k27,w13.heap.size≤k27→
 ∀w14,KpL [] w13 w14→
 Hb w14 k27 #[string s2,slice a10 k21 k22,slice a11 k23 k24,slice a12 k25 k26] 60∧
 Hb w14 k2 #[pointer (some d2)] 41∧
 Hb w14 k1 #[pointer (some (Addr.mk d 0 none))] 40→
 Ev Tryz.prog (Builtin.append_ #[23,23] 23 #[slice a9 k19 k20,slice (some (Addr.mk k27 0 none)) 1 1]) w14 fun y6 w15 =>
 ∃a13 k28 k29,y6=slice a13 k28 k29∧
 ∃l8,KpL l8 w14 w15∧
 (NotIn k27 l8∧
 NotIn k2 l8∧
 NotIn k1 l8)∧
 (Hb w15 k27 #[string s2,slice a10 k21 k22,slice a11 k23 k24,slice a12 k25 k26] 60∧
 Hb w15 k2 #[pointer (some d2)] 41∧
 Hb w15 k1 #[pointer (some (Addr.mk d 0 none))] 40→
 (LdA w15 (Addr.mk k2 0 none) [pointer (some d2)]∧
 True)∧
 (Hb w15 k27 #[string s2,slice a10 k21 k22,slice a11 k23 k24,slice a12 k25 k26] 60∧
 Hb w15 k2 #[pointer (some d2)] 41∧
 Hb w15 k1 #[pointer (some (Addr.mk d 0 none))] 40→
 (∃l9,LdA w15 (d2.add 2) l9∧
 l9.length=1)∧
 NotFrozen w15 (d2.add 2) 1∧
 (NotIn k27 [d2.block]∧
 NotIn k2 [d2.block]∧
 NotIn k1 [d2.block])∧
 ∀w16,w16=stA w15 (d2.add 2) [slice a13 k28 k29] 0→
 Hb w16 k27 #[string s2,slice a10 k21 k22,slice a11 k23 k24,slice a12 k25 k26] 60∧
 Hb w16 k2 #[pointer (some d2)] 41∧
 Hb w16 k1 #[pointer (some (Addr.mk d 0 none))] 40→
 ∃a14 k30 k31,LdA w16 ((d4.add 1).add 2) [slice a14 k30 k31]∧
 ∃(P3:List Value→World→Prop) (P4:List Value→World→Nat),(Hb w16 k27 #[string s2,slice a10 k21 k22,slice a11 k23 k24,slice a12 k25 k26] 60∧
 Hb w16 k2 #[pointer (some d2)] 41∧
 Hb w16 k1 #[pointer (some (Addr.mk d 0 none))] 40→
 P3 [int i64 0] w16)∧
 ∀n4 w17,P3 [int i64 n4] w17→
 (n4<(↑k30:Int)→
 ∃d6,a14=some d6∧
 0≤n4∧
 n4<(↑k30:Int)∧
 (Hb w17 k27 #[string s2,slice a10 k21 k22,slice a11 k23 k24,slice a12 k25 k26] 60∧
 Hb w17 k2 #[pointer (some d2)] 41∧
 Hb w17 k1 #[pointer (some (Addr.mk d 0 none))] 40→
 ∃a15 k32 k33 a16 k34 k35,LdA w17 (d6.add (n4.toNat*2)) [slice a15 k32 k33,slice a16 k34 k35]∧
 ∀k36,w17.heap.size≤k36→
 ∃m2,LdA w17 (d2.add 3) [map m2]∧
 ∀w18,KpL [] w17 w18→
 Hb w18 k36 #[slice a15 k32 k33,slice a16 k34 k35] 147∧
 Hb w18 k27 #[string s2,slice a10 k21 k22,slice a11 k23 k24,slice a12 k25 k26] 60∧
 Hb w18 k2 #[pointer (some d2)] 41∧
 Hb w18 k1 #[pointer (some (Addr.mk d 0 none))] 40→
 CallW Tryz.prog 78 #[int i64 n2,slice a15 k32 k33] w18 fun e4 w19 =>
 ∃n5 n6 n7 n8 n9,e4=returned (agg #[int i64 n5,int i64 n6,int i64 n7,int i64 n8,int i64 n9])∧
 KpL [] w18 w19∧
 (Hb w19 k36 #[slice a15 k32 k33,slice a16 k34 k35] 147∧
 Hb w19 k27 #[string s2,slice a10 k21 k22,slice a11 k23 k24,slice a12 k25 k26] 60∧
 Hb w19 k2 #[pointer (some d2)] 41∧
 Hb w19 k1 #[pointer (some (Addr.mk d 0 none))] 40→
 CallW Tryz.prog 77 #[slice a16 k34 k35] w19 fun e5 w20 =>
 ∃a17 k37 k38,e5=returned (slice a17 k37 k38)∧
 KpL [] w19 w20∧
 (Hb w20 k36 #[slice a15 k32 k33,slice a16 k34 k35] 147∧
 Hb w20 k27 #[string s2,slice a10 k21 k22,slice a11 k23 k24,slice a12 k25 k26] 60∧
 Hb w20 k2 #[pointer (some d2)] 41∧
 Hb w20 k1 #[pointer (some (Addr.mk d 0 none))] 40→
 Ev Tryz.prog (do
 Instr.mapUpdate 114 (map m2) (agg #[int i64 n5,int i64 n6,int i64 n7,int i64 n8,int i64 n9]) (agg #[int i64 0,slice a17 k37 k38])
 pure undef) w20 fun y7 w21 =>
 y7=tuple #[]∧
 ∃l10,KpL l10 w20 w21∧
 (NotIn k36 l10∧
 NotIn k27 l10∧
 NotIn k2 l10∧
 NotIn k1 l10)∧
 InI i64 (n4+1)∧
 (Hb w21 k36 #[slice a15 k32 k33,slice a16 k34 k35] 147∧
 Hb w21 k27 #[string s2,slice a10 k21 k22,slice a11 k23 k24,slice a12 k25 k26] 60∧
 Hb w21 k2 #[pointer (some d2)] 41∧
 Hb w21 k1 #[pointer (some (Addr.mk d 0 none))] 40→
 P3 [int i64 (n4+1)] w21∧
 P4 [int i64 (n4+1)] w21<P4 [int i64 n4] w17)))))∧
 (¬n4<(↑k30:Int)→
 InI i64 (n2+1)∧
 (Hb w17 k27 #[string s2,slice a10 k21 k22,slice a11 k23 k24,slice a12 k25 k26] 60∧
 Hb w17 k2 #[pointer (some d2)] 41∧
 Hb w17 k1 #[pointer (some (Addr.mk d 0 none))] 40→
 P1 [int i64 (n2+1)] w17∧
 P2 [int i64 (n2+1)] w17<P2 [int i64 n2] w8)))))))))))))∧
 (¬n2<(↑dbn:Int)→
 ∀w22,KpL [] w8 w22→
 Hb w22 k2 #[pointer (some d2)] 41∧
 Hb w22 k1 #[pointer (some (Addr.mk d 0 none))] 40→
 CallW Tryz.prog 61 #[pointer (some d2)] w22 fun e6 w23 =>
 ∃n10,e6=returned (int i64 n10)∧
 KpL [] w22 w23∧
 (Hb w23 k2 #[pointer (some d2)] 41∧
 Hb w23 k1 #[pointer (some (Addr.mk d 0 none))] 40→
 (∃l11,LdA w23 (d2.add 5) l11∧
 l11.length=1)∧
 NotFrozen w23 (d2.add 5) 1∧
 (NotIn k2 [d2.block]∧
 NotIn k1 [d2.block])∧
 ∀w24,w24=stA w23 (d2.add 5) [int i64 n10] 0→
 ∃n11,LdA w24 (d2.add 5) [int i64 n11]∧
 ∀w25,KpL [] w24 w25→
 Hb w25 k2 #[pointer (some d2)] 41∧
 Hb w25 k1 #[pointer (some (Addr.mk d 0 none))] 40→
 CallW Tryz.prog 50 #[pointer (some (Addr.mk d 0 none))] w25 fun e7 w26 =>
 ∃n12,e7=returned (int i64 n12)∧
 KpL [] w25 w26∧
 (n12<n11→
 Hb w26 k2 #[pointer (some d2)] 41∧
 Hb w26 k1 #[pointer (some (Addr.mk d 0 none))] 40→
 R (returned (tuple #[pointer none,int i64 18])) w26)∧
 (¬n12<n11→
 Hb w26 k2 #[pointer (some d2)] 41∧
 Hb w26 k1 #[pointer (some (Addr.mk d 0 none))] 40→
 ∃a18,LdA w26 (d2.add 0) [pointer a18]∧
 ∀k39,w26.heap.size≤k39→
 ∀w27,KpL [] w26 w27→
 Hb w27 k39 #[func (Fn.func 79) #[] #[pointer (some (Addr.mk k1 0 none))],func (Fn.func 81) #[] #[pointer (some (Addr.mk k2 0 none))],func (Fn.func 60) #[pointer a18] #[]] 49∧
 Hb w27 k2 #[pointer (some d2)] 41∧
 Hb w27 k1 #[pointer (some (Addr.mk d 0 none))] 40→
 CallW Tryz.prog 55 #[slice (some (Addr.mk k39 0 none)) 3 3] w27 fun e8 w28 =>
 ∃n13,e8=returned (int i64 n13)∧
 ∃l12,KpL l12 w27 w28∧
 (NotIn k2 l12∧
 NotIn k1 l12)∧
 (n13≠0→
 Hb w28 k2 #[pointer (some d2)] 41∧
 Hb w28 k1 #[pointer (some (Addr.mk d 0 none))] 40→
 R (returned (tuple #[pointer none,int i64 n13])) w28)∧
 (¬n13≠0→
 Hb w28 k2 #[pointer (some d2)] 41∧
 Hb w28 k1 #[pointer (some (Addr.mk d 0 none))] 40→
 CallW Tryz.prog 67 #[pointer (some d2)] w28 fun e9 w29 =>
 ∃a19,e9=returned (pointer a19)∧
 ∃l13,KpL l13 w28 w29∧
 (NotIn k2 l13∧
 NotIn k1 l13)∧
 (Hb w29 k2 #[pointer (some d2)] 41∧
 Hb w29 k1 #[pointer (some (Addr.mk d 0 none))] 40→
 R (returned (tuple #[pointer a19,int i64 0])) w29))))))))))∧
 (n1≠0→
 Hb w3 k1 #[pointer (some (Addr.mk d 0 none))] 40→
 R (returned (tuple #[pointer none,int i64 2])) w3))):Calls Tryz.prog 20 #[pointer (some (Addr.mk d 0 none)),slice dba dbn dbc] w R :=
 fnc0 (an:={ loops:=[⟨16,[75],[12,76,77,78,79,80,81,82,83,84,85,86,87,88,89,90,91],[]⟩,⟨9,[40],[4,5,7,8,9,10,12,41,42,43,44,45,46,47,48,49,50,51,52,53,54,55,56,57,58,59,60,61,62,63,64,65,66,67,68,69,70,71,72,73,74,75,76,77,78,79,80,81,82,83,84,85,86,87,88,89,90,91,92],[]⟩],muts:=[55,67],all:=true,lim:=2 }) (args:=[.a (.c (.v (.pointer (some ⟨d,0,none⟩)))),.a (.c (.v (.slice dba dbn dbc)))]) Tryz_ok Tryz.func20 (by kernel_rfl) rfl rfl h
end Go.Vc
namespace Go.Vc
open Go Go.Proofs
theorem StoV.stoOk{st:Sto}(h:StoV st){ps:List (Pl×Sta)}(hp:ps.Perm st.places):StoOk st.arrays st.batches ps:=by
 have h1:=h.an
 have h2:=h.bn
 have h3:=h.pn
 have h4:=hp.length_eq
 refine⟨by omega,fun x hx=>?_,by omega,fun x hx=>?_,by omega,fun p hpm=>?_⟩
 ·have a:=sch_dims (h.sch x hx)
  have b:=dims_14 a.1
  have c:=nameOk_12 (h.nms x hx)
  refine⟨by omega,by omega,by omega,fun d hd=>?_,fun a' ha=>?_⟩
  ·have:=nameOk_12 (dims_in a.1 d hd).1;omega
  ·have:=nameOk_12 (sch_attrs (h.sch x hx) a' ha).1;omega
 ·have:=nameOk_12 (h.bat x hx).1;omega
 ·have hpo:=h.pls p (hp.mem_iff.1 hpm)
  obtain⟨g1,g2,g3,g4,g5,g6,g7,g8⟩:=hpo.dims h.sch
  have:=hpo.a0
  have:=encVs_len g8 g7
  exact⟨by omega,by omega,by omega⟩
structure CmpR where
 e:Int
 st:Sto
 k:Dk
 num:Int
 nxt:Nat
def Sto.cmp(st:Sto)(k:Dk)(num:Int)(nxt:Nat)(ps:List (Pl×Sta)):CmpR :=
 if readyE st k≠0 then ⟨readyE st k,st,k,num,nxt⟩
 else if (k.clear (num+1) 0).1≠0 then ⟨(k.clear (num+1) 0).1,{ st with id:=-1 },(k.clear (num+1) 0).2,num,nxt⟩
 else if ((k.clear (num+1) 0).2.add (num+1) 0 1 (encBase st.arrays st.batches ps)).1≠0 then ⟨((k.clear (num+1) 0).2.add (num+1) 0 1 (encBase st.arrays st.batches ps)).1,{ st with id:=-1 },((k.clear (num+1) 0).2.add (num+1) 0 1 (encBase st.arrays st.batches ps)).2,num,nxt⟩
 else if (((k.clear (num+1) 0).2.add (num+1) 0 1 (encBase st.arrays st.batches ps)).2.note (num+1)).1≠0 then ⟨(((k.clear (num+1) 0).2.add (num+1) 0 1 (encBase st.arrays st.batches ps)).2.note (num+1)).1,{ st with id:=-1 },(((k.clear (num+1) 0).2.add (num+1) 0 1 (encBase st.arrays st.batches ps)).2.note (num+1)).2,num,nxt⟩
 else ⟨0,{ st with use:=1+8*st.arrays.length+3*st.places.length+st.batches.length },(((k.clear (num+1) 0).2.add (num+1) 0 1 (encBase st.arrays st.batches ps)).2.note (num+1)).2,num+1,0+1+secsOf (encBase st.arrays st.batches ps)⟩
def CmpTail(s k1 kv l3:Nat)(wB:World)(Q:Ending→World→Prop)(e2:Ending)(w6:World):Prop :=
 ∃n3:Int,e2=.returned (.int .i64 n3)∧∃l2,KpL l2 wB w6∧(NotIn kv l2∧NotIn k1 l2)∧
  (n3≠0→(w6.heap[kv]?=some (.cells #[.pointer (some ⟨l3,0,none⟩)] 113 (0,0))∧w6.heap[k1]?=some (.cells #[.pointer (some ⟨s,0,none⟩)] 41 (0,0)))→
    CallW Tryz.prog 51 #[.pointer (some ⟨s,0,none⟩),.int .i64 n3] w6 fun e3 w7=>∃n4:Int,e3=.returned (.int .i64 n4)∧∃l3',KpL l3' w6 w7∧(NotIn kv l3'∧NotIn k1 l3')∧
     ((w7.heap[kv]?=some (.cells #[.pointer (some ⟨l3,0,none⟩)] 113 (0,0))∧w7.heap[k1]?=some (.cells #[.pointer (some ⟨s,0,none⟩)] 41 (0,0)))→Q (.returned (.int .i64 n4)) w7))∧
  (¬n3≠0→∀w8,KpL [] w6 w8→(w8.heap[kv]?=some (.cells #[.pointer (some ⟨l3,0,none⟩)] 113 (0,0))∧w8.heap[k1]?=some (.cells #[.pointer (some ⟨s,0,none⟩)] 41 (0,0)))→
    CallW Tryz.prog 61 #[.pointer (some ⟨s,0,none⟩)] w8 fun e4 w9=>∃n5:Int,e4=.returned (.int .i64 n5)∧KpL [] w8 w9∧
     ((w9.heap[kv]?=some (.cells #[.pointer (some ⟨l3,0,none⟩)] 113 (0,0))∧w9.heap[k1]?=some (.cells #[.pointer (some ⟨s,0,none⟩)] 41 (0,0)))→
       (∃l4,LdA w9 ((⟨s,0,none⟩:Addr).add 0) l4∧l4.length=1)∧NotFrozen w9 ((⟨s,0,none⟩:Addr).add 0) 1∧(NotIn kv [s]∧NotIn k1 [s])∧
       ∀w10,w10=stA w9 ((⟨s,0,none⟩:Addr).add 0) [.pointer (some ⟨l3,0,none⟩)] 0→
        (w10.heap[kv]?=some (.cells #[.pointer (some ⟨l3,0,none⟩)] 113 (0,0))∧w10.heap[k1]?=some (.cells #[.pointer (some ⟨s,0,none⟩)] 41 (0,0)))→
        (LdA w10 ⟨k1,0,none⟩ [.pointer (some ⟨s,0,none⟩)]∧True)∧
        ((w10.heap[kv]?=some (.cells #[.pointer (some ⟨l3,0,none⟩)] 113 (0,0))∧w10.heap[k1]?=some (.cells #[.pointer (some ⟨s,0,none⟩)] 41 (0,0)))→
          (∃l5,LdA w10 ((⟨s,0,none⟩:Addr).add 5) l5∧l5.length=1)∧NotFrozen w10 ((⟨s,0,none⟩:Addr).add 5) 1∧(NotIn kv [s]∧NotIn k1 [s])∧
          ∀w11,w11=stA w10 ((⟨s,0,none⟩:Addr).add 5) [.int .i64 n5] 0→
           (w11.heap[kv]?=some (.cells #[.pointer (some ⟨l3,0,none⟩)] 113 (0,0))∧w11.heap[k1]?=some (.cells #[.pointer (some ⟨s,0,none⟩)] 41 (0,0)))→Q (.returned (.int .i64 0)) w11)))
theorem SysAt.newLog{M F Fd Fd':List Nat}{w w':World}{s l d l3:Nat}{num:Int}{nxt:Nat}{st:Sto}{k k':Dk}(h:SysAt M w s l d num nxt st k F Fd)(hl3:w.heap.size≤l3)(hD:DkAt (l3::(F++M)) w' d k' Fd')(hO:Own (l3::Fd) w (l3::Fd') w')(hl3l:l3<w'.heap.size):SysAt (l3::M) w' s l d num nxt st k' F Fd':=by
 have hkp:KpL Fd w w':=(KpL.refl Fd w).more (hO.kp) fun b hb=>(List.mem_cons.1 hb).elim (fun h=>.inr (by omega)) .inl
 refine⟨h.sto.step hkp (fun b hb=>by simp[hb]) fun b hb=>?_,hD.weak fun b hb=>by simp at hb ⊢;rcases hb with hb|rfl|hb<;>simp[*]⟩
 rcases List.mem_append.1 hb with hb|hb
 ·refine⟨?_,(hD.own_lt b hb).1⟩
  rcases hO.new b (by simp[hb]) with hb'|hb'
  ·rcases List.mem_cons.1 hb' with rfl|hb'
   ·exact .inr hl3
   ·exact .inl (by simp[hb'])
  ·exact .inr hb'
 ·rcases List.mem_cons.1 hb with rfl|hb
  ·exact⟨.inr hl3,hl3l⟩
  ·exact⟨.inl (by simp[hb]),hD.mlt b (by simp[hb])⟩
theorem SysAt.weak{M M' F Fd:List Nat}{w:World}{s l d:Nat}{num:Int}{nxt:Nat}{st:Sto}{k:Dk}(h:SysAt M w s l d num nxt st k F Fd)(hs:∀b∈M',b∈M):SysAt M' w s l d num nxt st k F Fd :=
 h.step (KpL.refl [] w) (by simp) fun b hb=>⟨.inl (hs b hb),h.mlt b (hs b hb)⟩
theorem Dk.add_n(k:Dk)(num:Int)(nxt:Nat)(q:Int)(b:List Int):(k.add num nxt q b).2.n=k.n:=by
 unfold Dk.add
 split
 ·exact Dk.add1L_n _ _ _ _ _
 ·split
  ·exact(Dk.write_n _ _ _).trans (Dk.add1L_n _ _ _ _ _)
  ·exact(Dk.sync_n _).trans ((Dk.write_n _ _ _).trans (Dk.add1L_n _ _ _ _ _))
set_option maxHeartbeats 4000000 in
theorem cmpCore{M F Fd:List Nat}{w:World}{s l d l3 k1 kv kf:Nat}{num:Int}{nxt:Nat}{st:Sto}{k:Dk}(h:SysAt M w s l d num nxt st k F Fd)(hv:StoV st)(hrd:¬readyE st k≠0)(h2:2≤k.n)(hnum:0≤num)
 (hpl:k.pend.length≤900000)(hA:∀ps',ps'.Perm st.places→(k.clear (num+1) 0).1=0→AddOk (k.clear (num+1) 0).2 (num+1) 0 1 (encBase st.arrays st.batches ps'))
 (hT:∀ps',ps'.Perm st.places→(k.clear (num+1) 0).1=0→((k.clear (num+1) 0).2.add (num+1) 0 1 (encBase st.arrays st.batches ps')).1=0→((k.clear (num+1) 0).2.add (num+1) 0 1 (encBase st.arrays st.batches ps')).2.pend.length≤1000000)
 {wB:World}(hk:KpL [] w wB)(hl3:LogAt wB l3 d (num+1) (0:Nat))(hl3n:w.heap.size≤l3)(hf:wB.heap[kf]?=some (.cells #[.func (.func 56) #[] #[.pointer (some ⟨kv,0,none⟩)],.func (.func 58) #[] #[.pointer (some ⟨kv,0,none⟩),.pointer (some ⟨k1,0,none⟩)],.func (.func 60) #[.pointer (some ⟨l3,0,none⟩)] #[]] 49 (0,0)))
 (hkv:wB.heap[kv]?=some (.cells #[.pointer (some ⟨l3,0,none⟩)] 113 (0,0)))(hk1:wB.heap[k1]?=some (.cells #[.pointer (some ⟨s,0,none⟩)] 41 (0,0)))(hkvn:w.heap.size≤kv)(hkfn:w.heap.size≤kf)(hk1n:w.heap.size≤k1){Q:Ending→World→Prop}
 (hQ:∀w' ps',ps'.Perm st.places→∀l' F' Fd',SysAt M w' s l' d (st.cmp k num nxt ps').num (st.cmp k num nxt ps').nxt (st.cmp k num nxt ps').st (st.cmp k num nxt ps').k F' Fd'→Own (F++Fd) w (F'++Fd') w'→Q (.returned (.int .i64 (st.cmp k num nxt ps').e)) w'):
 Calls Tryz.prog 55 #[.slice (some ⟨kf,0,none⟩) 3 3] wB (CmpTail s k1 kv l3 wB Q):=by
 have hne:kv≠l3∧k1≠l3∧kf≠l3∧kv≠k1:=by
  have e:=hl3
  unfold LogAt at e
  refine⟨?_,?_,?_,?_⟩<;>rintro rfl
  ·rw[hkv]at e;simp at e
  ·rw[hk1]at e;simp at e
  ·rw[hf]at e;simp at e
  ·rw[hkv]at hk1;simp at hk1
 obtain⟨hvl,h1l,hfl,hv1⟩:=hne
 have hB:=h.kp0 hk
 have sB:=hk.size
 have hFl:=h.own_lt
 have hl3l:=block_lt hl3
 have hn:∀x,w.heap.size≤x→x∉F++Fd:=fun x hx hm=>by have:=(hFl x hm).1;omega
 have hX:∀x∈[kf,kv,k1,l3],w.heap.size≤x∧x<wB.heap.size:=by
  intro x hx
  have:=block_lt hf
  have:=block_lt hkv
  have:=block_lt hk1
  simp only[List.mem_cons,List.not_mem_nil,or_false]at hx
  rcases hx with rfl|rfl|rfl|rfl<;>omega
 have hD0:DkAt ([kf,kv,k1,l3]++(F++M)) wB d k Fd:=h.dk.step hk (by simp) fun b hb=>by
  rcases List.mem_append.1 hb with hb|hb
  ·exact⟨.inr (hX b hb).1,(hX b hb).2⟩
  ·exact⟨.inl hb,by have:=h.dk.mlt b hb;omega⟩
 generalize hXX:[kf,kv,k1,l3]++(F++M)=X at *
 have hmX:∀x∈[kf,kv,k1,l3],x∈X:=fun x hx=>by rw[←hXX];exact List.mem_append_left _ hx
 have mf:kf∈X:=hmX _ (by simp)
 have mv:kv∈X:=hmX _ (by simp)
 have m1:k1∈X:=hmX _ (by simp)
 have ml:l3∈X:=hmX _ (by simp)
 have sysOf:∀{w':World} {k':Dk} {Fd':List Nat},DkAt X w' d k' Fd'→Own (l3::Fd) wB (l3::Fd') w'→SysAt (l3::M) w' s l d num nxt st k' F Fd':=by
  intro w' k' Fd' hD hO
  refine h.newLog hl3n (hD.weak fun b hb=>by rw[←hXX];simp at hb ⊢;rcases hb with rfl|hb|hb<;>simp[*]) ⟨(KpL.refl _ _ |>.trans (hk.mono (by simp))).trans hO.kp,fun b hb=>(hO.new b hb).imp id fun h=>by omega⟩ (by have:=hO.kp.size;omega)
 refine(all_ok (b:=kf) (fs:=[(56,#[],#[.pointer (some ⟨kv,0,none⟩)]),(58,#[],#[.pointer (some ⟨kv,0,none⟩),.pointer (some ⟨k1,0,none⟩)]),(60,#[.pointer (some ⟨l3,0,none⟩)],#[])]) (T:=49) hf (by simp) (c:=3)
  (R:=fun e w'=>∃(n:Int) (ps':List (Pl×Sta)),e=.returned (.int .i64 n)∧ps'.Perm st.places∧∃Fd' k' nxt',DkAt X w' d k' Fd'∧Own (l3::Fd) wB (l3::Fd') w'∧LogAt w' l3 d (num+1) (nxt':Nat)∧(n≠0→st.cmp k num nxt ps'=⟨n,{ st with id:=-1 },k',num,nxt⟩)∧
    (n=0→st.cmp k num nxt ps'=⟨0,{ st with use:=1+8*st.arrays.length+3*st.places.length+st.batches.length },k',num+1,nxt'⟩)) ?_).mono ?_
 ·have own3:∀{wa wb:World} {Fa Fb:List Nat},Own Fa wa Fb wb→Own (l3::Fa) wa (l3::Fb) wb:=fun ho=>⟨ho.kp.mono (by intro x hx;simp[hx]),fun x hx=>(List.mem_cons.1 hx).elim (fun h=>.inl (by simp[h])) fun hx=>(ho.new x hx).imp (fun h=>by simp[h]) id⟩
  refine⟨⟨_,_,Tryz.func56,rfl⟩,⟨cClear_vc hkv fun _=>⟨(lClear_ok hD0 hl3 ml h2 (by omega) (i0:=0) (by omega) (by omega)).mono ?_⟩⟩⟩
  rintro e w1 ⟨rfl,Fd1,hD1,hO1⟩
  have hl31:LogAt w1 l3 d (num+1) (0:Nat):=hl3.keep hO1.kp (hD0.out ml).no
  refine⟨_,rfl,_,hO1.kp,hD0.out mv,fun hkv1=>⟨_,_,rfl,hO1.kp,hD0.out mf,fun hne=>?_,fun hz=>?_⟩⟩
  ·exact⟨_,st.places,rfl,List.Perm.refl _,Fd1,_,0,hD1,own3 hO1,hl31,fun _=>by unfold Sto.cmp;rw[if_neg hrd,if_pos hne],fun hc=>absurd hc hne⟩
  have hk11:w1.heap[k1]?=_:=(hO1.kp.blk k1 (block_lt hk1) (hD0.out m1).no).trans hk1
  have hS1:=sysOf hD1 (own3 hO1)
  refine⟨⟨_,_,Tryz.func58,rfl⟩,⟨cBase_vc ⟨hkv1,hk11⟩ (by simp[hv1]) (by simp;exact⟨block_lt hkv1,block_lt hk11⟩) fun w2 hw2 hkn2=>⟨(sBase_ok (N:=l3::Fd1) (fun x hx=>?_) ((hS1.kp0 hw2).sto.weak (by simp)) (hv.stoOk (List.Perm.refl _))).mono ?_⟩⟩⟩
  ·have:=hw2.size
   rcases List.mem_cons.1 hx with rfl|hx
   ·have:=block_lt hl31;omega
   ·have:=(hD1.own_lt x hx).1;omega
  rintro e w3 ⟨ps',hperm,hsorted,a,n,c,rfl,hV⟩
  have hk13:KpL [] w1 w3:=hw2.trans hV.kpn
  have ho:=hA ps' hperm hz
  have hlen:=hV.acc.len
  have hlb:(encBase st.arrays st.batches ps').length≤1000000:=by
   have h1:=ho.fit
   have h2:=(k.clear (num+1) 0).2.half_le
   obtain⟨ss,hs1,hs2,hs3⟩:=hD1.ok.secs
   unfold secsOf at h1
   omega
  have hRb:=hV.acc.done (by have:maxSl=140737488355328:=rfl;omega)
  refine⟨_,_,_,rfl,hV.kpn,fun hkn3=>⟨(lAdd_ok (hD1.kp0 hk13) (hl31.keep hk13 (by simp)) ml hRb (ini_u8.2 (by omega)) ho.n2 (by omega) ho.fit ho.pl ho.ps ho.ps2).mono ?_⟩⟩
  rintro e w4 ⟨rfl,Fd2,hD2,hO2,hl32⟩
  have hO02:Own (l3::Fd) wB (l3::Fd2) w4:=((own3 hO1).kp0 hk13).trans hO2
  have nin:∀x∈X,x≠l3→NotIn x (l3::Fd1):=fun x hx hne=>⟨fun hm=>(List.mem_cons.1 hm).elim hne (hD1.out hx).no⟩
  refine⟨_,rfl,_,hO2.kp,⟨nin kv mv hvl,nin k1 m1 h1l⟩,fun hkn4=>⟨_,_,rfl,(hk13.mono (by simp)).trans hO2.kp,nin kf mf hfl,fun hne=>?_,fun hz2=>?_⟩⟩
  ·rw[if_neg hne]at hl32
   exact⟨_,ps',rfl,hperm,Fd2,_,0,hD2,hO02,hl32,fun _=>by unfold Sto.cmp;rw[if_neg hrd,if_neg (by simp[hz]),if_pos hne],fun hc=>absurd hc hne⟩
  rw[if_pos hz2]at hl32
  refine⟨⟨_,_,Tryz.func60,rfl⟩,⟨(lNote_ok hD2 hl32 ml (by have:=hD2.ok.secs;have:=ho.n2;rw[Dk.add_n];omega) (by omega) (hT ps' hperm hz hz2)).mono ?_⟩⟩
  rintro e w5 ⟨rfl,Fd3,hD3,hO3⟩
  have hl33:=hl32.keep hO3.kp (hD2.out ml).no
  refine⟨_,_,rfl,hO3.kp,hD2.out mf,fun hne=>?_,fun hz3=>?_⟩
  ·exact⟨_,ps',rfl,hperm,Fd3,_,_,hD3,hO02.trans (own3 hO3),hl33,fun _=>by unfold Sto.cmp;rw[if_neg hrd,if_neg (by simp[hz]),if_neg (by simp[hz2]),if_pos hne],fun hc=>absurd hc hne⟩
  ·exact⟨0,ps',rfl,hperm,Fd3,_,_,hD3,hO02.trans (own3 hO3),hl33,fun hc=>absurd rfl hc,fun _=>by unfold Sto.cmp;rw[if_neg hrd,if_neg (by simp[hz]),if_neg (by simp[hz2]),if_neg (by simp[hz3])]⟩
 ·rintro e w6 ⟨n,ps',rfl,hperm,Fd',k',nxt',hD6,hO6,hl36,hne6,hz6⟩
  have hS6:=sysOf hD6 hO6
  have nin:∀x∈X,x≠l3→NotIn x (l3::Fd):=fun x hx hne=>⟨fun hm=>(List.mem_cons.1 hm).elim hne (hD0.out hx).no⟩
  have ninF:∀x∈[kf,kv,k1,l3],x∉F:=fun x hx hm=>by have:=(hFl x (List.mem_append_left _ hm)).1;have:=(hX x hx).1;omega
  have hOw:Own (F++Fd) w (F++Fd') w6:=by
   refine⟨(KpL.refl _ _ |>.trans (hk.mono (by simp))).more (hO6.kp) fun b hb=>?_,fun b hb=>?_⟩
   ·rcases List.mem_cons.1 hb with rfl|hb
    ·exact .inr hl3n
    ·exact .inl (by simp[hb])
   ·rcases List.mem_append.1 hb with hb|hb
    ·exact .inl (by simp[hb])
    ·rcases hO6.new b (by simp[hb]) with hb'|hb'
     ·rcases List.mem_cons.1 hb' with rfl|hb'
      ·exact .inr hl3n
      ·exact .inl (by simp[hb'])
     ·exact .inr (by omega)
  refine⟨n,rfl,_,hO6.kp,⟨nin kv mv hvl,nin k1 m1 h1l⟩,fun hne hkn6=>⟨(lost_ok hS6.sto n).mono ?_⟩,fun hz w8 hw8 hkn8=>?_⟩
  ·rintro e w7 ⟨rfl,hS7,hO7⟩
   rw[if_pos hne]at hS7
   obtain⟨h7,hO7'⟩:=hS6.stoTo hS7 hO7
   refine⟨_,rfl,_,hO7.kp,⟨⟨ninF kv (by simp)⟩,⟨ninF k1 (by simp)⟩⟩,fun _=>?_⟩
   have:=hQ w7 ps' hperm l F Fd'
   rw[hne6 hne]at this
   exact this (h7.weak (by simp;intro a ha;simp[ha])) (hOw.trans hO7')
  have hz':=Classical.not_not.1 hz
  have h8:=hS6.kp0 hw8
  refine⟨(compacted_ok h8.sto (by have:=hv.an;omega) (by have:=hv.pn;omega) (by have:=hv.bn;omega)).mono ?_⟩
  rintro e w9 ⟨rfl,hw9⟩
  have h9:=h8.kp0 hw9
  obtain⟨m,ra,rn,rc,qa,qn,qc,hI,hl9,rfl⟩:=h9.sto
  have hsF:s∈s::l::m::blkL qa:=by simp
  have nins:NotIn kv [s]∧NotIn k1 [s]:=⟨⟨fun hm=>ninF kv (by simp) (by simp at hm;simp[hm])⟩,⟨fun hm=>ninF k1 (by simp) (by simp at hm;simp[hm])⟩⟩
  have hk10:KpL [s] w9 (stA w9 ((⟨s,0,none⟩:Addr).add 0) [.pointer (some ⟨l3,0,none⟩)] 0):=by rw[add_lit];exact stA_kp w9 ⟨s,0+0,none⟩ _
  have hs10:SC (stA w9 ((⟨s,0,none⟩:Addr).add 0) [.pointer (some ⟨l3,0,none⟩)] 0) s l3 st.id ra rn rc (some m) qa qn qc st.use:=by rw[add_lit];exact stA_ld (off:=0) (l:=[_]) hI.hs (by simp)
  refine⟨_,rfl,hw9,fun hkn9=>⟨⟨_,by rw[add_lit];exact ldA_blk hI.hs 0 [_] rfl,rfl⟩,by rw[add_lit];exact notFrozen hI.hs,nins,?_⟩⟩
  rintro w10 rfl hkn10
  refine⟨⟨ldA_blk hkn10.2 0 [_] rfl,trivial⟩,fun _=>⟨⟨_,hs10.ld5,rfl⟩,hs10.nf 5,nins,?_⟩⟩
  rintro w11 rfl _
  have hk11:=hs10.kpS 5 (.int .i64 (1+8*(st.arrays.length:Int)+3*st.places.length+st.batches.length))
  have hs11:=hs10.set5 (1+8*(st.arrays.length:Int)+3*st.places.length+st.batches.length)
  have hk911:=hk10.trans hk11
  generalize hw11:stA (stA w9 ((⟨s,0,none⟩:Addr).add 0) [.pointer (some ⟨l3,0,none⟩)] 0) ((⟨s,0,none⟩:Addr).add 5) [.int .i64 (1+8*(st.arrays.length:Int)+3*st.places.length+st.batches.length)] 0=w11 at *
  have hk611:KpL [s] w6 w11:=((hw8.trans hw9).mono (by simp)).trans hk911
  have hl3n':l3∉s::l::m::blkL qa:=ninF l3 (by simp)
  have hl11:LogAt w11 l3 d (num+1) (nxt':Nat):=hl36.keep hk611 (by simp;rintro rfl;exact hl3n' (by simp))
  have s11:=hk611.size
  have hl3D:l3∉Fd'++M:=fun hm=>by
   rcases List.mem_append.1 hm with hm|hm
   ·exact(hD6.out ml).no hm
   ·have:=h.mlt l3 hm;omega
  have hq:=hQ w11 ps' hperm l3 (s::l3::m::blkL qa) Fd'
  rw[hz6 hz']at hq
  have hl36l:=block_lt hl36
  have hll9:=block_lt hl9
  have hm:=hI.pls.mM
  refine hq ⟨⟨m,ra,rn,rc,qa,qn,qc,⟨hs11,?_,?_,?_,fun e=>hl3n' (by simp[e]),fun hm=>hI.sM (by simp at hm ⊢;rcases hm with hm|hm<;>simp[hm]),hl3D,hI.idI,ini_i64.2 ?_,hI.keys⟩,hl11,rfl⟩,?_⟩ ?_
  ·exact(hI.arr.kp hk911 (by simp)).weak fun b hb=>by simp at hb ⊢;rcases hb with hb|hb|hb|hb|hb|hb<;>simp[hb]
  ·exact hI.pls.step hk911 (by simp) fun b hb=>.inl (by simp at hb ⊢;rcases hb with hb|hb|hb|hb|hb<;>simp[hb])
  ·exact(hI.bat.kp hk911 (by simp)).weak fun b hb=>by simp at hb ⊢;rcases hb with hb|hb|hb|hb|hb<;>simp[hb]
  ·have:=hv.an;have:=hv.pn;have:=hv.bn;simp only;omega
  ·refine hD6.step hk611 (by rw[←hXX];simp) fun b hb=>?_
   have hbX:b∈X:=by rw[←hXX];simp at hb ⊢;rcases hb with hb|hb|hb|hb|hb<;>simp[hb]
   exact⟨.inl hbX,by have:=hD6.mlt b hbX;omega⟩
  ·refine⟨hOw.kp.trans (hk611.mono (by simp)),fun b hb=>?_⟩
   rcases List.mem_append.1 hb with hb|hb
   ·simp only[List.mem_cons]at hb
    rcases hb with rfl|rfl|rfl|hb
    ·exact .inl (by simp)
    ·exact .inr hl3n
    ·exact .inl (by simp)
    ·exact .inl (by simp[hb])
   ·exact hOw.new b (by simp[hb])
end Go.Vc
namespace Go.Vc
open Go Go.Proofs
set_option maxHeartbeats 4000000 in
theorem sCompact_ok{M F Fd:List Nat}{w:World}{s l d:Nat}{num:Int}{nxt:Nat}{st:Sto}{k:Dk}(h:SysAt M w s l d num nxt st k F Fd)(hv:StoV st)(h2:2≤k.n)(hnum:0≤num)(hnum2:num≤1000000)
 (hpl:k.pend.length≤900000)(hA:∀ps',ps'.Perm st.places→(k.clear (num+1) 0).1=0→AddOk (k.clear (num+1) 0).2 (num+1) 0 1 (encBase st.arrays st.batches ps'))
 (hT:∀ps',ps'.Perm st.places→(k.clear (num+1) 0).1=0→((k.clear (num+1) 0).2.add (num+1) 0 1 (encBase st.arrays st.batches ps')).1=0→((k.clear (num+1) 0).2.add (num+1) 0 1 (encBase st.arrays st.batches ps')).2.pend.length≤1000000):
 Calls Tryz.prog 14 #[.pointer (some ⟨s,0,none⟩)] w fun e w'=>∃ps',ps'.Perm st.places∧e=.returned (.int .i64 (st.cmp k num nxt ps').e)∧
  ∃l' F' Fd',SysAt M w' s l' d (st.cmp k num nxt ps').num (st.cmp k num nxt ps').nxt (st.cmp k num nxt ps').st (st.cmp k num nxt ps').k F' Fd'∧Own (F++Fd) w (F'++Fd') w':=by
 refine sCompact_vc fun k1 hk1 w1 hw1 hkn1=>⟨(ready_ok (h.kp0 hw1).sto (h.kp0 hw1).dk).mono ?_⟩
 rintro e w2 ⟨rfl,hw2⟩
 have hk02:=hw1.trans hw2
 have h2':=h.kp0 hk02
 refine⟨_,rfl,hw2,fun hr _=>?_,fun hr=>?_⟩
 ·refine⟨st.places,List.Perm.refl _,?_⟩
  have e:st.cmp k num nxt st.places=⟨readyE st k,st,k,num,nxt⟩:=by unfold Sto.cmp;rw[if_pos hr]
  rw[e]
  exact⟨rfl,l,F,Fd,h2',Own.of0 hk02⟩
 have hlog2:=h2'.sto.log
 have hls:LdA w2 ((⟨s,0,none⟩:Addr).add 0) [.pointer (some ⟨l,0,none⟩)]:=by
  obtain⟨m,ra,rn,rc,qa,qn,qc,hI,_,_⟩:=h2'.sto
  rw[add_lit];exact ldA_blk hI.hs 0 [_] rfl
 have hl0:LdA w2 ((⟨l,0,none⟩:Addr).add 0) [.pointer (some ⟨d,0,none⟩)]:=by rw[add_lit];exact ldA_blk hlog2 0 [_] rfl
 have ew:IntKind.u64.wrap (num+1)=num+1:=wrap_in (ini_u64.2 (by omega))
 have s1:=hw1.size
 have s2:=hw2.size
 have hk1l:=block_lt hkn1
 have fin:∀{wa:World},∀w' ps',ps'.Perm st.places→∀l' F' Fd',SysAt M w' s l' d (st.cmp k num nxt ps').num (st.cmp k num nxt ps').nxt (st.cmp k num nxt ps').st (st.cmp k num nxt ps').k F' Fd'→Own (F++Fd) w (F'++Fd') w'→
  ∃ps',ps'.Perm st.places∧Ending.returned (.int .i64 (st.cmp k num nxt ps').e)=.returned (.int .i64 (st.cmp k num nxt ps').e)∧∃l' F' Fd',SysAt M w' s l' d (st.cmp k num nxt ps').num (st.cmp k num nxt ps').nxt (st.cmp k num nxt ps').st (st.cmp k num nxt ps').k F' Fd'∧Own (F++Fd) w (F'++Fd') w' :=
  fun {_} w' ps' hp l' F' Fd' hs ho=>⟨ps',hp,rfl,l',F',Fd',hs,ho⟩
 refine⟨_,hls,_,rfl,_,hl0,_,hls,_,rfl,_,hlog2.ld1,fun w3 hw3 hkn3=>?_,fun k4 hk4 w12 hw12 hkn12=>?_⟩
 ·rw[ew]
  refine ev_box fun w4 hb4 hw4=>⟨_,rfl,[],hw4,⟨by simp⟩,fun k2 hk2 k3 hk3 w5 hw5 hkn5=>?_⟩
  have s3:=hw3.size
  have hb5:=(hw5.blk _ (block_lt hb4) (by simp)).trans hb4
  refine⟨(cmpCore (nxt:=nxt) h hv hr h2 hnum hpl hA hT (((hk02.trans hw3).trans hw4).trans hw5) (l3:=w3.heap.size) hb5 (by omega) hkn5.1 hkn5.2.1 hkn5.2.2 (by have:=hw4.size;omega) (by have:=hw4.size;omega) hk1 (Q:=fun e w'=>∃ps',ps'.Perm st.places∧e=.returned (.int .i64 (st.cmp k num nxt ps').e)∧
   ∃l' F' Fd',SysAt M w' s l' d (st.cmp k num nxt ps').num (st.cmp k num nxt ps').nxt (st.cmp k num nxt ps').st (st.cmp k num nxt ps').k F' Fd'∧Own (F++Fd) w (F'++Fd') w') fun w' ps' hp l' F' Fd' hs ho=>⟨ps',hp,rfl,l',F',Fd',hs,ho⟩).mono fun _ _ hh=>hh⟩
 ·rw[ew]
  refine ev_box fun w13 hb13 hw13=>⟨_,rfl,[],hw13,⟨⟨by simp⟩,⟨by simp⟩⟩,fun k5 hk5 w14 hw14 hkn14=>?_⟩
  have s12:=hw12.size
  have hk4l:=block_lt hkn12.1
  have hb14:=(hw14.blk _ (block_lt hb13) (by simp;omega)).trans hb13
  have hk14:KpL [] w w14:=((hk02.trans hw12).trans hw13).more hw14 (by simp;omega)
  refine⟨(cmpCore (nxt:=nxt) h hv hr h2 hnum hpl hA hT hk14 (l3:=w12.heap.size) hb14 (by omega) hkn14.1 hkn14.2.1 hkn14.2.2 (by omega) (by have:=hw13.size;omega) hk1 (Q:=fun e w'=>∃ps',ps'.Perm st.places∧e=.returned (.int .i64 (st.cmp k num nxt ps').e)∧
   ∃l' F' Fd',SysAt M w' s l' d (st.cmp k num nxt ps').num (st.cmp k num nxt ps').nxt (st.cmp k num nxt ps').st (st.cmp k num nxt ps').k F' Fd'∧Own (F++Fd) w (F'++Fd') w') fun w' ps' hp l' F' Fd' hs ho=>⟨ps',hp,rfl,l',F',Fd',hs,ho⟩).mono fun _ _ hh=>hh⟩
end Go.Vc
namespace Go.Vc
open Go Go.Proofs
abbrev Slc:=Option Addr×Nat×Nat
def slV(x:Slc):Value:=.slice x.1 x.2.1 x.2.2
def oth(sl:List Slc)(i:Nat):List Nat:=(sl.eraseIdx i).flatMap fun x=>blkL x.1
theorem mem_oth{sl:List Slc}{i b:Nat}:b∈oth sl i↔∃k x,k≠i∧sl[k]?=some x∧b∈blkL x.1:=by
 unfold oth
 rw[List.mem_flatMap]
 constructor
 ·rintro⟨x,hx,hb⟩
  obtain⟨k,hk,hx⟩:=List.mem_eraseIdx_iff_getElem?.1 hx
  exact⟨k,x,hk,hx,hb⟩
 ·rintro⟨k,x,hk,hx,hb⟩
  exact⟨x,List.mem_eraseIdx_iff_getElem?.2 ⟨k,hk,hx⟩,hb⟩
structure Bkts (M:List Nat) (w:World) (cb T:Nat) (ls:List (List Cell)) (sl:List Slc):Prop where
 hb:w.heap[cb]?=some (.cells (sl.map slV).toArray T (0,0))
 len:sl.length=ls.length
 acc:∀i x c,sl[i]?=some x→ls[i]?=some c→Acc tCell (oth sl i++cb::M) w c x.1 x.2.1 x.2.2
 cM:cb∉M
section
variable {M:List Nat} {w w':World} {cb T:Nat} {ls:List (List Cell)} {sl:List Slc} (h:Bkts M w cb T ls sl)
include h
theorem Bkts.kp{N:List Nat}(k:KpL N w w')(hN:∀b∈N,b∈M):Bkts M w' cb T ls sl :=
 ⟨(k.blk cb (block_lt h.hb) fun hm=>h.cM (hN cb hm)).trans h.hb,h.len,fun i x c hx hc=>(h.acc i x c hx hc).kp k fun b hb=>by simp[hN b hb],h.cM⟩
theorem Bkts.kp0(k:KpL [] w w'):Bkts M w' cb T ls sl:=h.kp k (by simp)
theorem Bkts.blk_lt{i:Nat}{x:Slc}(hx:sl[i]?=some x):∀b∈blkL x.1,b<w.heap.size∧b≠cb∧b∉M:=by
 intro b hb
 have hi:i<ls.length:=by rw[←h.len];exact(List.getElem?_eq_some_iff.1 hx).1
 have:=(h.acc i x ls[i] hx (List.getElem?_eq_getElem hi)).blk_lt b hb
 exact⟨this.1,fun e=>this.2 (by simp[e]),fun e=>this.2 (by simp[e])⟩
theorem Bkts.set{i:Nat}{x y:Slc}{c c':List Cell}{w1:World}(hx:sl[i]?=some x)(_hc:ls[i]?=some c)(hC:AccC tCell (oth sl i++cb::M) w x.1 c' y.1 y.2.1 y.2.2 w1):
 Bkts M (stA w1 ((⟨cb,0,none⟩:Addr).add (i*1)) [slV y] 0) cb T (ls.set i c') (sl.set i y)∧KpL (blkL x.1) w w1∧KpL [cb] w1 (stA w1 ((⟨cb,0,none⟩:Addr).add (i*1)) [slV y] 0)∧(∃l,LdA w1 ((⟨cb,0,none⟩:Addr).add (i*1)) l∧l.length=1)∧NotFrozen w1 ((⟨cb,0,none⟩:Addr).add (i*1)) 1:=by
 have hil:i<sl.length:=(List.getElem?_eq_some_iff.1 hx).1
 have hcb:cb∉blkL x.1:=fun hm=>(h.blk_lt hx cb hm).2.1 rfl
 have hb1:w1.heap[cb]?=some (.cells (sl.map slV).toArray T (0,0)):=(hC.kp.blk cb (block_lt h.hb) hcb).trans h.hb
 obtain⟨s1,s2,s3,s4,s5⟩:=st1 (i:=i) (v:=slV y) hb1 (by simpa using hil)
 refine⟨⟨by rw[List.map_set];exact s4,by simp[h.len],fun j z d hz hd=>?_,h.cM⟩,hC.kp,s5,s1,s2⟩
 have sz1:=hC.kp.size
 rw[List.getElem?_set]at hz hd
 by_cases hij:i=j
 ·subst hij
  rw[if_pos rfl,if_pos hil,Option.some.injEq]at hz
  rw[if_pos rfl,if_pos (by rw[←h.len];exact hil),Option.some.injEq]at hd
  subst hz hd
  refine(hC.acc.weak fun b hb=>?_).kp s5 (by simp)
  rcases List.mem_append.1 hb with hb|hb
  ·obtain⟨k,z,hk,hz,hbz⟩:=mem_oth.1 hb
   rw[List.getElem?_set,if_neg (Ne.symm hk)]at hz
   exact List.mem_append_left _ (mem_oth.2 ⟨k,z,hk,hz,hbz⟩)
  ·exact List.mem_append_right _ hb
 ·rw[if_neg hij]at hz hd
  have hA:=h.acc j z d hz hd
  have hxo:∀b∈blkL x.1,b∈oth sl j:=fun b hb=>mem_oth.2 ⟨i,x,hij,hx,hb⟩
  refine(hA.step hC.kp (fun b hb=>List.mem_append_left _ (hxo b hb)) (M':=oth (sl.set i y) j++cb::M) fun b hb=>?_).kp s5 (by simp)
  rcases List.mem_append.1 hb with hb|hb
  ·obtain⟨k,u,hk,hu,hbu⟩:=mem_oth.1 hb
   rw[List.getElem?_set]at hu
   by_cases hik:i=k
   ·subst hik
    rw[if_pos rfl,if_pos hil,Option.some.injEq]at hu
    subst hu
    exact⟨(hC.own b hbu).imp (fun h=>List.mem_append_left _ (hxo b h)) id,(hC.acc.blk_lt b hbu).1⟩
   ·rw[if_neg hik]at hu
    exact⟨.inl (List.mem_append_left _ (mem_oth.2 ⟨k,u,hk,hu,hbu⟩)),by have:=(h.blk_lt hu b hbu).1;omega⟩
  ·have:=hA.mlt b (List.mem_append_right _ hb)
   exact⟨.inl (List.mem_append_right _ hb),by omega⟩
end
theorem Bkts.new{M:List Nat}{w:World}{cb T n:Nat}(hb:w.heap[cb]?=some (.cells (List.replicate n (Value.slice none 0 0)).toArray T (0,0)))(hM:∀b∈M,b<w.heap.size)(hc:cb∉M):Bkts M w cb T (List.replicate n []) (List.replicate n (none,0,0)):=by
 refine⟨by simpa[slV]using hb,by simp,fun i x c hx hc=>?_,hc⟩
 rw[List.getElem?_replicate]at hx hc
 split at hx
 ·rename_i hi
  rw[if_pos hi]at hc
  simp only[Option.some.injEq]at hx hc
  subst hx hc
  refine Acc.nil' _ fun b hb'=>?_
  rcases List.mem_append.1 hb' with hb'|hb'
  ·obtain⟨k,z,_,hz,hbz⟩:=mem_oth.1 hb'
   rw[List.getElem?_replicate]at hz
   split at hz
   ·simp at hz;subst hz;simp[blkL]at hbz
   ·cases hz
  ·rcases List.mem_cons.1 hb' with rfl|hb'
   ·exact block_lt hb
   ·exact hM b hb'
 ·cases hx
def cellP(arrays:List Nm)(i:Nat)(p:Pl×Sta):Option Cell:=if p.1.a=i∧p.2.vals.length≠0 then some ⟨p.1.co.take (ndims arrays p.1.a),p.2.vals⟩ else none
def cellsI(arrays:List Nm)(ps:List (Pl×Sta))(i:Nat):List Cell:=ps.filterMap (cellP arrays i)
def DbRel(arrays:List Nm)(ps:List (Pl×Sta))(out:List Nm):Prop :=
 ∀(i:Nat) (y:Nm),out[i]?=some y→∃x:Nm,arrays[i]?=some x∧y.name=x.name∧y.arr.dims=x.arr.dims∧y.arr.attrs=x.arr.attrs∧y.arr.cells.Perm (cellsI arrays ps i)∧CSorted y.arr.cells
theorem cellsI_ok{arrays:List Nm}{nb:Nat}{ps:List (Pl×Sta)}{i:Nat}{x:Nm}(hs:∀x∈arrays,schemaE x.arr.dims x.arr.attrs=0)(hp:∀p∈ps,PlOk arrays nb p)(hx:arrays[i]?=some x):∀c∈cellsI arrays ps i,cellE x.arr.dims x.arr.attrs c=0:=by
 intro c hc
 unfold cellsI at hc
 obtain⟨p,hpm,hpc⟩:=List.mem_filterMap.1 hc
 unfold cellP at hpc
 split at hpc
 ·rename_i h
  simp only[Option.some.injEq]at hpc
  subst hpc
  have hok:=hp p hpm
  obtain⟨g1,g2,g3,g4,g5,g6,g7,g8⟩:=hok.dims hs
  obtain⟨h0,⟨y,hy,⟨at_,h1,h2,h3⟩,h4,h5⟩,_,_⟩:=hok
  have hia:p.1.a.toNat=i:=by omega
  rw[hia,hx,Option.some.injEq]at hy
  subst hy
  have hn:ndims arrays p.1.a=x.arr.dims.length:=by unfold ndims;rw[hia,hx]
  have hco:p.1.co.take (ndims arrays p.1.a)=at_:=by
   have e2:p.1.co=(plOf p.1.a at_).co:=congrArg Pl.co h3
   have hd:=dims_14 (sch_dims (hs x (List.mem_of_getElem? hx))).1
   rw[hn,←h1,e2]
   unfold Pl.co plOf
   match at_,(by omega:1≤at_.length∧at_.length≤4) with
   |[a],_=>rfl
   |[a,b],_=>rfl
   |[a,b,c],_=>rfl
   |[a,b,c,d],_=>rfl
   |_::_::_::_::_::_,h=>simp at h
  unfold cellE
  rw[hco]
  dsimp only
  rw[if_neg,if_neg (by simp[h2]),if_neg (by simp[h4])]
  simp only[not_or,Decidable.not_not]
  refine⟨h1,?_⟩
  rcases h5 with h5|h5
  ·rw[h5]at h;simp at h
  ·exact h5
 ·cases hpc
theorem cellsI_nd{arrays:List Nm}{nb:Nat}{ps:List (Pl×Sta)}{i:Nat}(hs:∀x∈arrays,schemaE x.arr.dims x.arr.attrs=0)(hp:∀p∈ps,PlOk arrays nb p)(hk:(ps.map (·.1)).Nodup):((cellsI arrays ps i).map (·.at_)).Nodup:=by
 induction ps with
 |nil=>simp[cellsI]
 |cons p r ih =>
  rw[List.map_cons,List.nodup_cons]at hk
  have ih':=ih (fun q hq=>hp q (by simp[hq])) hk.2
  unfold cellsI at ih' ⊢
  rw[List.filterMap_cons]
  cases hc:cellP arrays i p with
  |none=>exact ih'
  |some c =>
   simp only[List.map_cons,List.nodup_cons]
   refine⟨fun hm=>?_,ih'⟩
   obtain⟨c',hc',he⟩:=List.mem_map.1 hm
   obtain⟨q,hq,hqc⟩:=List.mem_filterMap.1 hc'
   have hpo:=(hp p (by simp)).dims hs
   have hqo:=(hp q (by simp[hq])).dims hs
   unfold cellP at hc hqc
   split at hc
   ·rename_i h1
    split at hqc
    ·rename_i h2
     simp only[Option.some.injEq]at hc hqc
     subst hc hqc
     dsimp only at he
     apply hk.1
     refine List.mem_map.2 ⟨q,hq,?_⟩
     rw[←hpo.2.2.2.2.2.1,←hqo.2.2.2.2.2.1,he,h1.1,h2.1]
    ·cases hqc
   ·cases hc
end Go.Vc
