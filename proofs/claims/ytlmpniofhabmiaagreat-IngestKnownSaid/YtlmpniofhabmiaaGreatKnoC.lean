/- A part of the proof of the theorem that this claim hands in: merged by a small program out of texts of my own. -/
import Derived.Test.YtlmpniofhabmiaaGreatKnoB
import Derived.Shelf.SlSortCmp.NoneTotal
set_option linter.unusedVariables false
set_option linter.unusedSimpArgs false
set_option linter.unusedSectionVars false
namespace Go.Vc
open Go Go.Proofs
structure CellsAt (w:World) (b:Nat) (xs:List RC):Prop where
 blk:∃rest T,w.heap[b]?=some (.cells (xs.flatMap RC.cs++rest).toArray T (0,0))
 el:∀x∈xs,R tCell [b] w x.c x.cs
theorem flatC_len(xs:List RC):(xs.flatMap RC.cs).length=2*xs.length:=by
 induction xs with
 |nil=>rfl
 |cons x r ih=>rw[List.flatMap_cons,List.length_append,ih,List.length_cons];show 2+_=_;omega
section
variable {w w':World} {b:Nat} {xs:List RC}
theorem CellsAt.kp0(h:CellsAt w b xs)(k:KpL [] w w'):CellsAt w' b xs:=by
 obtain⟨rest,T,hb⟩:=h.blk
 exact⟨⟨rest,T,(k.blk b (block_lt hb) (by simp)).trans hb⟩,fun x hx=>(h.el x hx).kp0 k⟩
theorem CellsAt.get(h:CellsAt w b xs){i:Nat}{x:RC}(hx:xs[i]?=some x):LdA w ((⟨b,0,none⟩:Addr).add (i*2)) x.cs∧R tCell [b] w x.c x.cs:=by
 obtain⟨rest,T,hb⟩:=h.blk
 refine⟨?_,h.el x (List.mem_of_getElem? hx)⟩
 rw[add_lit,Nat.zero_add]
 refine ldA_blk hb _ _ ?_
 obtain⟨hi,rfl⟩:=List.getElem?_eq_some_iff.1 hx
 have hl:(xs[i].cs).length=2:=rfl
 rw[hl]
 have e1:xs=xs.take i++xs[i]::xs.drop (i+1):=by rw[←List.drop_eq_getElem_cons hi,List.take_append_drop]
 have e2:xs.flatMap RC.cs++rest=(xs.take i).flatMap RC.cs++(xs[i].cs++((xs.drop (i+1)).flatMap RC.cs++rest)):=by
  conv=>lhs;rw[e1]
  rw[List.flatMap_append,List.flatMap_cons]
  simp
 rw[e2,List.drop_append_of_le_length (by rw[flatC_len];simp;omega),List.drop_eq_nil_of_le (by rw[flatC_len];simp;omega),List.nil_append]
 rfl
theorem CellsAt.set(h:CellsAt w b xs){i:Nat}{x:RC}(hi:i<xs.length)(hx:R tCell [b] w x.c x.cs):
 (∃l,LdA w ((⟨b,0,none⟩:Addr).add (i*2)) l∧l.length=2)∧NotFrozen w ((⟨b,0,none⟩:Addr).add (i*2)) 2∧
 CellsAt (stA w ((⟨b,0,none⟩:Addr).add (i*2)) x.cs 0) b (xs.set i x)∧KpL [b] w (stA w ((⟨b,0,none⟩:Addr).add (i*2)) x.cs 0):=by
 have hg:=h.get (List.getElem?_eq_getElem hi)
 obtain⟨rest,T,hb⟩:=h.blk
 rw[add_lit,Nat.zero_add]at hg ⊢
 have hk:KpL [b] w (stA w ⟨b,i*2,none⟩ x.cs 0):=stA_kp w ⟨b,i*2,none⟩ _
 refine⟨⟨_,hg.1,rfl⟩,notFrozen hb,⟨⟨rest,T,?_⟩,fun y hy=>?_⟩,hk⟩
 ·rw[stA_ld hb (by rw[List.length_append,flatC_len];show i*2+2≤_;omega)]
  congr 2
  have e1:xs=xs.take i++xs[i]::xs.drop (i+1):=by rw[←List.drop_eq_getElem_cons hi,List.take_append_drop]
  have e2:xs.flatMap RC.cs++rest=(xs.take i).flatMap RC.cs++(xs[i].cs++((xs.drop (i+1)).flatMap RC.cs++rest)):=by
   conv=>lhs;rw[e1]
   rw[List.flatMap_append,List.flatMap_cons]
   simp
  have e3:(xs.set i x).flatMap RC.cs++rest=(xs.take i).flatMap RC.cs++(x.cs++((xs.drop (i+1)).flatMap RC.cs++rest)):=by
   rw[List.set_eq_take_append_cons_drop,if_pos hi,List.flatMap_append,List.flatMap_cons]
   simp
  rw[e2,e3]
  have hl:((xs.take i).flatMap RC.cs).length=i*2:=by rw[flatC_len];simp;omega
  rw[List.take_append_of_le_length (by omega),List.take_of_length_le (by omega),List.drop_append,List.drop_eq_nil_of_le (by omega),List.nil_append]
  have e4:i*2+x.cs.length - ((xs.take i).flatMap RC.cs).length=2:=by rw[hl];show i*2+2 - _=2;omega
  rw[e4]
  rfl
 ·rcases List.mem_or_eq_of_mem_set hy with hy|rfl
  ·exact(h.el y hy).kp hk (by simp)
  ·exact hx.kp hk (by simp)
end
structure CmpV (w0:World) (b:Nat) (f:FuncId) (fi ca:Array Value):Prop where
 ok:FuncOk Tryz.prog f
 calls:∀(x y:RC) (w:World),KpL [b] w0 w→R tCell [b] w x.c x.cs→R tCell [b] w y.c y.cs→
  Calls Tryz.prog f (fi.toList++[Value.agg #[.slice x.a1 x.n1 x.c1,.slice x.a2 x.n2 x.c2],Value.agg #[.slice y.a1 y.n1 y.c1,.slice y.a2 y.n2 y.c2]]++ca.toList).toArray w (PureR (.int .i64 (cmpL x.c.at_ y.c.at_)) w)
theorem CmpV.at{w0 w:World}{b:Nat}{f:FuncId}{fi ca:Array Value}(h:CmpV w0 b f fi ca)(k:KpL [b] w0 w):CmpV w b f fi ca:=⟨h.ok,fun x y w' k'=>h.calls x y w' (k.trans k')⟩
def ToC(w:World)(b:Nat)(p:List RC→Prop)(e:Ending)(w':World):Prop:=e=.returned (.tuple #[])∧KpL [b] w w'∧∃ys,CellsAt w' b ys∧p ys
theorem swapRange_ok{w:World}{b:Nat}{P A B C Q:List RC}{f:FuncId}{fi ca:Array Value}{n c:Nat}(h:CellsAt w b (P++(A++(B++(C++Q)))))(hn:n=(P++(A++(B++(C++Q)))).length)(hl:A.length=C.length)(hb:n≤1000000){x y z:Int}
 (hx:x=P.length)(hy:y=x+A.length+B.length)(hz:z=A.length):
 Calls Tryz.prog 221 #[.slice (some ⟨b,0,none⟩) n c,.int .i64 x,.int .i64 y,.int .i64 z,.func (.func f) fi ca] w (ToC w b fun ys=>ys=P++(C++(B++(A++Q)))):=by
 simp only[List.length_append]at hn
 refine swapRange_vc ⟨fun vs w'=>∃(A1 A2 C1 C2:List RC),vs=[.int .i64 (A1.length:Int)]∧A=A1++A2∧C=C1++C2∧C1.length=A1.length∧KpL [b] w w'∧CellsAt w' b (P++(C1++(A2++(B++(A1++(C2++Q)))))),
  fun vs _=>match vs with|[.int _ i]=>A.length - i.toNat|_=>0,⟨[],A,[],C,rfl,rfl,rfl,rfl,KpL.refl _ _,h⟩,?_⟩
 rintro n1 w1 ⟨A1,A2,C1,C2,hv,rfl,rfl,hl1,hk,hc⟩
 simp only[List.cons.injEq,Value.int.injEq,true_and,and_true]at hv
 subst hv
 simp only[List.length_append]at hl hn hy hz
 constructor
 ·intro hlt
  obtain⟨u,A2',rfl⟩:=len_cons (l:=A2) (by omega)
  obtain⟨v,C2',rfl⟩:=len_cons (l:=C2) (by omega)
  simp only[List.length_cons]at hl hn hy hz
  have ex:(x+(A1.length:Int)).toNat=P.length+C1.length:=by omega
  have ey:(y+(A1.length:Int)).toNat=P.length+C1.length+A2'.length+1+B.length+A1.length:=by omega
  have gv:=hc.get (i:=(y+(A1.length:Int)).toNat) (x:=v) (by
   rw[ey,show P++(C1++((u::A2')++(B++(A1++((v::C2')++Q)))))=(P++(C1++((u::A2')++(B++A1))))++v::(C2'++Q) from by simp]
   exact get_mid (by simp;omega) _)
  have gu:=hc.get (i:=(x+(A1.length:Int)).toNat) (x:=u) (by
   rw[ex,show P++(C1++((u::A2')++(B++(A1++((v::C2')++Q)))))=(P++C1)++u::(A2'++(B++(A1++((v::C2')++Q)))) from by simp]
   exact get_mid (by simp) _)
  refine⟨ini_i64.2 (by omega),ini_i64.2 (by omega),ini_i64.2 (by omega),_,rfl,by omega,by omega,v.a1,v.n1,v.c1,v.a2,v.n2,v.c2,gv.1,ini_i64.2 (by omega),_,rfl,by omega,by omega,u.a1,u.n1,u.c1,u.a2,u.n2,u.c2,gu.1,_,rfl,by omega,by omega,fun w2 hk2=>?_⟩
  have hc2:=hc.kp0 hk2
  obtain⟨s1,s2,s3,s4⟩:=hc2.set (i:=(x+(A1.length:Int)).toNat) (x:=v) (by simp;omega) (gv.2.kp0 hk2)
  refine⟨s1,s2,?_⟩
  rintro w3 rfl
  obtain⟨t1,t2,t3,t4⟩:=s3.set (i:=(y+(A1.length:Int)).toNat) (x:=u) (by simp;omega) ((gu.2.kp0 hk2).kp s4 (by simp))
  refine⟨_,rfl,by omega,by omega,t1,t2,?_⟩
  rintro w4 rfl
  have hk4:=((hk.trans (hk2.mono (by simp))).trans s4).trans t4
  refine⟨ini_i64.2 (by omega),⟨A1++[u],A2',C1++[v],C2',by simp,by simp,by simp,by simp[hl1],hk4,?_⟩,?_⟩
  ·have e1:(P++(C1++((u::A2')++(B++(A1++((v::C2')++Q)))))).set (x+(A1.length:Int)).toNat v=P++(C1++((v::A2')++(B++(A1++((v::C2')++Q))))):=by
    rw[show P++(C1++((u::A2')++(B++(A1++((v::C2')++Q)))))=(P++C1)++u::(A2'++(B++(A1++((v::C2')++Q)))) from by simp,set_mid (by simp;omega)]
    simp
   have e2:(P++(C1++((v::A2')++(B++(A1++((v::C2')++Q)))))).set (y+(A1.length:Int)).toNat u=P++((C1++[v])++(A2'++(B++((A1++[u])++(C2'++Q))))):=by
    rw[show P++(C1++((v::A2')++(B++(A1++((v::C2')++Q)))))=(P++(C1++((v::A2')++(B++A1))))++v::(C2'++Q) from by simp,set_mid (by simp;omega)]
    simp
   rw[e1,e2]at t3
   exact t3
  ·simp only[List.length_append,List.length_cons];omega
 ·intro hge
  have h1:=len_zero (l:=A2) (by omega)
  have h2:=len_zero (l:=C2) (by omega)
  subst h1 h2
  refine⟨rfl,hk,_,hc,by simp⟩
theorem rotate_ok{w:World}{b:Nat}{P A B Q:List RC}{f:FuncId}{fi ca:Array Value}{n c:Nat}(h:CellsAt w b (P++(A++(B++Q))))(hn:n=(P++(A++(B++Q))).length)(hb:n≤1000000)(hA:0<A.length)(hB:0<B.length){x y z:Int}
 (hx:x=P.length)(hy:y=x+A.length)(hz:z=y+B.length):
 Calls Tryz.prog 216 #[.slice (some ⟨b,0,none⟩) n c,.int .i64 x,.int .i64 y,.int .i64 z,.func (.func f) fi ca] w (ToC w b fun ys=>ys=P++(B++(A++Q))):=by
 have hlen:n=P.length+(A.length+(B.length+Q.length)):=by simpa using hn
 refine rotate_vc ⟨ini_i64.2 (by omega),ini_i64.2 (by omega),fun vs w'=>∃(P' X Y Q':List RC),vs=[.int .i64 (X.length:Int),.int .i64 (Y.length:Int)]∧y=P'.length+X.length∧0<X.length∧0<Y.length∧n=(P'++(X++(Y++Q'))).length∧
  KpL [b] w w'∧CellsAt w' b (P'++(X++(Y++Q')))∧P'++(Y++(X++Q'))=P++(B++(A++Q)),fun vs _=>match vs with|[.int _ i,.int _ j]=>i.toNat+j.toNat|_=>0,
  ⟨P,A,B,Q,by rw[show y - x=(A.length:Int) by omega,show z - y=(B.length:Int) by omega],by omega,hA,hB,hn,KpL.refl _ _,h,rfl⟩,?_⟩
 rintro n1 n2 w1 ⟨P',X,Y,Q',hv,hy',hX,hY,hn',hk,hc,he⟩
 simp only[List.cons.injEq,Value.int.injEq,true_and,and_true]at hv
 obtain⟨rfl,rfl⟩:=hv
 have hlen':n=P'.length+(X.length+(Y.length+Q'.length)):=by simpa using hn'
 refine⟨fun hne=>⟨fun hlt=>⟨ini_i64.2 (by omega),?_⟩,fun hnl=>⟨ini_i64.2 (by omega),ini_i64.2 (by omega),ini_i64.2 (by omega),?_⟩⟩,fun heq=>⟨ini_i64.2 (by omega),?_⟩⟩
 ·obtain⟨X1,X2,rfl,hX1⟩:=len_split (l:=X) (n:=Y.length) (by omega)
  simp only[List.length_append]at hlen' hy' hlt hne hX ⊢
  refine⟨(swapRange_ok (P:=P') (A:=X1) (B:=X2) (C:=Y) (Q:=Q') (by simpa using hc) (by simp;omega) hX1 hb (by omega) (by omega) (by omega)).mono ?_⟩
  rintro e w2 ⟨rfl,hk2,ys,hc2,rfl⟩
  refine⟨rfl,_,hk2,ini_i64.2 (by omega),⟨P'++Y,X2,X1,Q',?_,by simp;omega,by omega,by omega,by simp;omega,hk.trans hk2,by simpa using hc2,by simpa using he⟩,?_⟩
  ·rw[show(((X1.length+X2.length:Nat):Int) - (Y.length:Int))=(X2.length:Int) by omega,hX1]
  ·omega
 ·obtain⟨Y1,Y2,rfl,hY1⟩:=len_split (l:=Y) (n:=Y.length - X.length) (by omega)
  simp only[List.length_append]at hlen' hy' hnl hne hY hY1 ⊢
  refine⟨(swapRange_ok (P:=P') (A:=X) (B:=Y1) (C:=Y2) (Q:=Q') (by simpa using hc) (by simp;omega) (by omega) hb (by omega) (by omega) (by omega)).mono ?_⟩
  rintro e w2 ⟨rfl,hk2,ys,hc2,rfl⟩
  refine⟨rfl,_,hk2,ini_i64.2 (by omega),⟨P',Y2,Y1,X++Q',?_,by omega,by omega,by omega,by simp;omega,hk.trans hk2,by simpa using hc2,by simpa using he⟩,?_⟩
  ·rw[show(((Y1.length+Y2.length:Nat):Int) - (X.length:Int))=(Y1.length:Int) by omega,show Y2.length=X.length by omega]
  ·omega
 ·have:X.length=Y.length:=by have:=Classical.not_not.1 heq;omega
  refine⟨(swapRange_ok (P:=P') (A:=X) (B:=[]) (C:=Y) (Q:=Q') (by simpa using hc) (by simp<;>omega) this hb (by omega) (by simp<;>omega) (by omega)).mono ?_⟩
  rintro e w2 ⟨rfl,hk2,ys,hc2,rfl⟩
  exact⟨rfl,_,hk2,rfl,hk.trans hk2,_,hc2,by simpa using he⟩
theorem insertion_ok{w:World}{b:Nat}{P S Q:List RC}{f:FuncId}{fi ca:Array Value}{n c:Nat}(h:CellsAt w b (P++(S++Q)))(hf:CmpV w b f fi ca)(hn:n=(P++(S++Q)).length)(hb:n≤1000000){x y:Int}(hx:x=P.length)(hy:y=x+S.length):
 Calls Tryz.prog 210 #[.slice (some ⟨b,0,none⟩) n c,.int .i64 x,.int .i64 y,.func (.func f) fi ca] w (ToC w b fun ys=>∃S',ys=P++(S'++Q)∧S'.Perm S∧PW S'):=by
 have hlen:n=P.length+(S.length+Q.length):=by simpa using hn
 refine insertion_vc ⟨ini_i64.2 (by omega),fun vs w'=>∃(T U:List RC),vs=[.int .i64 (x+1+(T.length - 1:Nat))]∧(T++U).Perm S∧PW T∧(T.length=0→S=[])∧KpL [b] w w'∧CellsAt w' b (P++(T++(U++Q))),
  fun vs _=>match vs with|[.int _ i]=>y.toNat - i.toNat|_=>0,?_,?_⟩
 ·cases S with
  |nil=>exact⟨[],[],by simp,by simp,by simp,fun _=>rfl,KpL.refl _ _,by simpa using h⟩
  |cons s S=>exact⟨[s],S,by simp,by simp,by simp,fun hc=>by simp at hc,KpL.refl _ _,by simpa using h⟩
 rintro n1 w1 ⟨T,U,hv,hp,hs,ht0,hk,hc⟩
 simp only[List.cons.injEq,Value.int.injEq,true_and,and_true]at hv
 subst hv
 have hpl:=hp.length_eq
 simp only[List.length_append]at hpl
 constructor
 ·intro hlt
  have hT:0<T.length:=by
   rcases Nat.eq_zero_or_pos T.length with h0|h0
   ·have:S.length=0:=by rw[ht0 h0];rfl
    omega
   ·exact h0
  obtain⟨v,U',rfl⟩:=len_cons (l:=U) (by omega)
  simp only[List.length_cons]at hpl
  refine⟨fun vs w'=>∃(T1 T2:List RC),vs=[.int .i64 (x+T1.length)]∧T=T1++T2∧(∀t∈T2,leC v t)∧KpL [b] w w'∧CellsAt w' b (P++(T1++(v::(T2++(U'++Q))))),fun vs _=>match vs with|[.int _ i]=>i.toNat - x.toNat|_=>0,
   ⟨T,[],by simp;omega,by simp,by simp,hk,by simpa using hc⟩,?_⟩
  rintro n2 w2 ⟨T1,T2,hv2,rfl,hT2,hk2,hc2⟩
  simp only[List.cons.injEq,Value.int.injEq,true_and,and_true]at hv2
  subst hv2
  simp only[List.length_append]at hpl hT hlt ⊢
  have fin:∀{w':World},(∀t∈T1,leC t v)→KpL [] w2 w'→(∃(T U:List RC),[Value.int .i64 (x+1+((T1.length+T2.length - 1:Nat):Int)+1)]=[.int .i64 (x+1+(T.length - 1:Nat))]∧(T++U).Perm S∧PW T∧(T.length=0→S=[])∧KpL [b] w w'∧CellsAt w' b (P++(T++(U++Q))))∧
   y.toNat - (x+1+((T1.length+T2.length - 1:Nat):Int)+1).toNat<y.toNat - (x+1+((T1.length+T2.length - 1:Nat):Int)).toNat:=by
   intro w' hle hkw
   refine⟨⟨T1++v::T2,U',by simp;omega,?_,pw_ins hs hle hT2,by simp,hk2.trans (hkw.mono (by simp)),by simpa using hc2.kp0 hkw⟩,by omega⟩
   refine List.Perm.trans ?_ hp
   simp only[List.append_assoc,List.cons_append]
   refine List.Perm.append_left T1 ?_
   exact(List.perm_middle (l₁:=T2) (l₂:=U') (a:=v)).symm
  constructor
  ·intro hgt
   obtain⟨T1',t,rfl⟩:=len_snoc (l:=T1) (by omega)
   simp only[List.length_append,List.length_cons,List.length_nil,Nat.zero_add]at hpl hlt hgt fin ⊢
   have ei:(x+((T1'.length+1:Nat):Int)).toNat=P.length+T1'.length+1:=by omega
   have ej:(x+((T1'.length+1:Nat):Int) - 1).toNat=P.length+T1'.length:=by omega
   have e0:P++((T1'++[t])++(v::(T2++(U'++Q))))=(P++T1')++t::v::(T2++(U'++Q)):=by simp
   rw[e0]at hc2
   have gv:=hc2.get (i:=(x+((T1'.length+1:Nat):Int)).toNat) (x:=v) (by
    rw[ei,show(P++T1')++t::v::(T2++(U'++Q))=((P++T1')++[t])++v::(T2++(U'++Q)) from by simp]
    exact get_mid (by simp;omega) _)
   have gt:=hc2.get (i:=(x+((T1'.length+1:Nat):Int) - 1).toNat) (x:=t) (by rw[ej];exact get_mid (by simp) _)
   have hbnd:(0:Int)≤x+((T1'.length+1:Nat):Int)∧x+((T1'.length+1:Nat):Int)<n∧0≤x+((T1'.length+1:Nat):Int) - 1∧x+((T1'.length+1:Nat):Int) - 1<n:=by omega
   obtain⟨b1,b2,b3,b4⟩:=hbnd
   refine⟨_,rfl,b1,b2,v.a1,v.n1,v.c1,v.a2,v.n2,v.c2,gv.1,ini_i64.2 (by omega),_,rfl,b3,b4,t.a1,t.n1,t.c1,t.a2,t.n2,t.c2,gt.1,hf.ok,fun w3 hk3=>⟨(hf.calls v t w3 (hk2.trans (hk3.mono (by simp))) (gv.2.kp0 hk3) (gt.2.kp0 hk3)).mono ?_⟩⟩
   rintro e w4 ⟨rfl,hk4⟩
   have hk24:=hk3.trans hk4
   refine⟨_,rfl,[],hk4,fun hneg=>?_,fun hnn=>⟨ini_i64.2 (by omega),?_⟩⟩
   ·have hc4:=hc2.kp0 hk24
    refine⟨ini_i64.2 (by omega),ini_i64.2 (by omega),_,rfl,b3,b4,t.a1,t.n1,t.c1,t.a2,t.n2,t.c2,gt.1.kp hk24,_,rfl,b1,b2,v.a1,v.n1,v.c1,v.a2,v.n2,v.c2,gv.1.kp hk24,_,rfl,b1,b2,fun w5 hk5=>?_⟩
    have hc5:=hc4.kp0 hk5
    obtain⟨s1,s2,s3,s4⟩:=hc5.set (i:=(x+((T1'.length+1:Nat):Int)).toNat) (x:=t) (by simp;omega) ((gt.2.kp0 hk24).kp0 hk5)
    refine⟨s1,s2,?_⟩
    rintro w6 rfl
    obtain⟨t1,t2,t3,t4⟩:=s3.set (i:=(x+((T1'.length+1:Nat):Int) - 1).toNat) (x:=v) (by simp;omega) (((gv.2.kp0 hk24).kp0 hk5).kp s4 (by simp))
    refine⟨_,rfl,b3,b4,t1,t2,?_⟩
    rintro w7 rfl
    refine⟨ini_i64.2 (by omega),⟨T1',t::T2,?_,by simp,fun u hu=>?_,((hk2.trans ((hk24.trans hk5).mono (by simp))).trans s4).trans t4,?_⟩,?_⟩
    ·rw[show x+((T1'.length+1:Nat):Int) - 1=x+(T1'.length:Int) by omega]
    ·rcases List.mem_cons.1 hu with rfl|hu
     ·exact leC_of_lt hneg
     ·exact hT2 u hu
    ·have e1:((P++T1')++t::v::(T2++(U'++Q))).set (x+((T1'.length+1:Nat):Int)).toNat t=(P++T1')++t::t::(T2++(U'++Q)):=by
      rw[show(P++T1')++t::v::(T2++(U'++Q))=((P++T1')++[t])++v::(T2++(U'++Q)) from by simp,set_mid (by simp;omega)]
      simp
     rw[e1,set_mid (by simp;omega)]at t3
     simpa[RC.cs]using t3
    ·omega
   ·refine fin (fun u hu=>?_) hk24
    have htv:leC t v:=leC_of_nlt hnn
    have hsT:=(pw_app.1 hs).1
    rcases List.mem_append.1 hu with hu|hu
    ·exact leC_trans ((pw_app.1 hsT).2.2 u hu t (by simp)) htv
    ·simp at hu;subst hu;exact htv
  ·intro hng
   have h0:=len_zero (l:=T1) (by omega)
   subst h0
   exact⟨ini_i64.2 (by simp at hlt ⊢;omega),fun w8 hk8=>fin (by simp) hk8⟩
 ·intro hge
  have hU:U=[]:=by
   rcases Nat.eq_zero_or_pos T.length with h0|h0
   ·have:=ht0 h0;subst this;simp at hpl;exact hpl.2
   ·exact len_zero (by omega)
  subst hU
  exact⟨rfl,hk,_,hc,T,by simp,by simpa using hp,hs⟩
end Go.Vc
namespace Go.Vc
open Go Go.Proofs
theorem half_eq{s:Int}(h0:0≤s)(h1:s≤4000000):IntKind.i64.wrap (Int.fdiv (IntKind.u64.wrap s) (((2:Nat) ^ (1:Nat):Nat):Int))=s / 2:=by
 rw[wrap_in (ini_u64.2 (by omega)),fdiv_pow]
 have:(((2:Nat) ^ (1:Nat):Nat):Int)=2:=rfl
 rw[this]
 exact wrap_in (ini_i64.2 (by omega))
set_option maxHeartbeats 2000000 in
theorem symMerge_ok{b:Nat}{f:FuncId}{fi ca:Array Value}:∀(N:Nat) {w:World} {P A B Q:List RC} {n c:Nat},A.length+B.length≤N→CellsAt w b (P++(A++(B++Q)))→CmpV w b f fi ca→n=(P++(A++(B++Q))).length→n≤1000000→
 0<A.length→0<B.length→PW A→PW B→∀{x y z:Int},x=P.length→y=x+A.length→z=y+B.length→
 Calls Tryz.prog 211 #[.slice (some ⟨b,0,none⟩) n c,.int .i64 x,.int .i64 y,.int .i64 z,.func (.func f) fi ca] w (ToC w b fun ys=>∃S',ys=P++(S'++Q)∧S'.Perm (A++B)∧PW S'):=by
 intro N
 induction N with
 |zero=>intro w P A B Q n c h1 _ _ _ _ h2;omega
 |succ N ih =>
 intro w P A B Q n c hN h hf hn hb hA hB pA pB x y z hx hy hz
 have hlen:n=P.length+(A.length+(B.length+Q.length)):=by simpa using hn
 have getA:∀{w':World} {t:Nat} {u:RC},CellsAt w' b (P++(A++(B++Q)))→A[t]?=some u→∀{i:Int},i=x+t→LdA w' ((⟨b,0,none⟩:Addr).add (i.toNat*2)) u.cs∧R tCell [b] w' u.c u.cs:=by
  intro w' t u hc hu i hi
  have ht:=(List.getElem?_eq_some_iff.1 hu).1
  refine hc.get (i:=i.toNat) ?_
  rw[show i.toNat=P.length+t from by omega,List.getElem?_append_right (by omega),Nat.add_sub_cancel_left,List.getElem?_append_left ht]
  exact hu
 have getB:∀{w':World} {t:Nat} {u:RC},CellsAt w' b (P++(A++(B++Q)))→B[t]?=some u→∀{i:Int},i=y+t→LdA w' ((⟨b,0,none⟩:Addr).add (i.toNat*2)) u.cs∧R tCell [b] w' u.c u.cs:=by
  intro w' t u hc hu i hi
  have ht:=(List.getElem?_eq_some_iff.1 hu).1
  refine hc.get (i:=i.toNat) ?_
  rw[show i.toNat=P.length+(A.length+t) from by omega,List.getElem?_append_right (by omega),Nat.add_sub_cancel_left,List.getElem?_append_right (by omega),Nat.add_sub_cancel_left,List.getElem?_append_left ht]
  exact hu
 have hge:∀{L:List RC} {t:Nat} {u:RC},L[t]?=some u→t<L.length:=fun h=>(List.getElem?_eq_some_iff.1 h).1
 refine symMerge_vc ⟨ini_i64.2 (by omega),fun h1=>?_,fun h1=>⟨ini_i64.2 (by omega),fun h2=>?_,fun h2=>⟨ini_i64.2 (by omega),?_⟩⟩⟩
 ·
  obtain⟨v,A',rfl⟩:=len_cons hA
  have hA':=len_zero (l:=A') (by simp at hy;omega)
  subst hA'
  refine⟨fun vs w'=>∃(p q:Nat),vs=[.int .i64 (y+p),.int .i64 (y+q)]∧p≤q∧q≤B.length∧(∀t u,t<p→B[t]?=some u→ltC u v)∧(∀t u,q≤t→B[t]?=some u→¬ltC u v)∧KpL [b] w w'∧CellsAt w' b (P++([v]++(B++Q))),
   fun vs _=>match vs with|[.int _ i,.int _ j]=>j.toNat - i.toNat|_=>0,⟨0,B.length,by simp;omega,by omega,by omega,by omega,fun t u ht hu=>by have:=hge hu;omega,KpL.refl _ _,h⟩,?_⟩
  rintro n1 n2 w1 ⟨p,q,hv,hpq,hq,hlo,hhi,hk,hc⟩
  simp only[List.cons.injEq,Value.int.injEq,true_and,and_true]at hv
  obtain⟨rfl,rfl⟩:=hv
  constructor
  ·intro hlt
   rw[half_eq (by omega) (by omega)]
   have em:(y+(p:Int)+(y+(q:Int))) / 2=y+((p+q) / 2:Nat):=by omega
   rw[em]
   have hm:(p+q) / 2<B.length:=by omega
   have hBm:=List.getElem?_eq_getElem hm
   have gB:=getB hc hBm rfl
   have gA:=getA hc (t:=0) (u:=v) rfl (i:=x) (by omega)
   generalize B[(p+q) / 2]=u at *
   refine⟨ini_i64.2 (by omega),_,rfl,by omega,by omega,u.a1,u.n1,u.c1,u.a2,u.n2,u.c2,gB.1,_,rfl,by omega,by omega,v.a1,v.n1,v.c1,v.a2,v.n2,v.c2,gA.1,hf.ok,fun w2 hk2=>⟨(hf.calls u v w2 (hk.trans (hk2.mono (by simp))) (gB.2.kp0 hk2) (gA.2.kp0 hk2)).mono ?_⟩⟩
   rintro e w3 ⟨rfl,hk3⟩
   have hk03:KpL [b] w w3:=hk.trans ((hk2.trans hk3).mono (by simp))
   have hc3:=hc.kp0 (hk2.trans hk3)
   refine⟨_,rfl,[],hk3,fun hneg=>⟨ini_i64.2 (by omega),⟨(p+q) / 2+1,q,?_,by omega,hq,fun t s ht hs=>?_,hhi,hk03,hc3⟩,by dsimp only;omega⟩,fun hnn=>⟨⟨p,(p+q) / 2,rfl,by omega,by omega,hlo,fun t s ht hs=>?_,hk03,hc3⟩,by dsimp only;omega⟩⟩
   ·rw[show y+(((p+q) / 2:Nat):Int)+1=y+(((p+q) / 2+1:Nat):Int) by omega]
   ·exact le_lt (pw_get pB (by omega) hs hBm) hneg
   ·exact fun hc'=>hnn (le_lt (pw_get pB ht hBm hs) hc')
  ·intro hge'
   have hpe:p=q:=by omega
   subst hpe
   obtain⟨B1,B2,rfl,hB1⟩:=len_split hq
   simp only[List.length_append]at hlen hq hN hz
   refine⟨fun vs w'=>∃(C1 C2:List RC),vs=[.int .i64 (x+C1.length)]∧B1=C1++C2∧KpL [b] w w'∧CellsAt w' b (P++(C1++(v::(C2++(B2++Q))))),fun vs _=>match vs with|[.int _ i]=>(x+B1.length).toNat - i.toNat|_=>0,
    ⟨[],B1,by simp,rfl,hk,by simpa using hc⟩,?_⟩
   rintro n4 w4 ⟨C1,C2,hv,rfl,hk4,hc4⟩
   simp only[List.cons.injEq,Value.int.injEq,true_and,and_true]at hv
   subst hv
   simp only[List.length_append]at hlen hB1
   refine⟨ini_i64.2 (by omega),fun hlt=>?_,fun hge2=>?_⟩
   ·obtain⟨u,C2',rfl⟩:=len_cons (l:=C2) (by simp at hy;omega)
    simp only[List.length_cons]at hlen hB1 hlt
    have e0:P++(C1++(v::((u::C2')++(B2++Q))))=(P++C1)++v::u::(C2'++(B2++Q)):=by simp
    rw[e0]at hc4
    have ei:(x+(C1.length:Int)).toNat=(P++C1).length:=by simp;omega
    have ej:(x+(C1.length:Int)+1).toNat=((P++C1)++[v]).length:=by simp;omega
    have gv:=hc4.get (i:=(x+(C1.length:Int)).toNat) (x:=v) (get_mid ei _)
    have gu:=hc4.get (i:=(x+(C1.length:Int)+1).toNat) (x:=u) (by
     rw[show(P++C1)++v::u::(C2'++(B2++Q))=((P++C1)++[v])++u::(C2'++(B2++Q)) from by simp]
     exact get_mid ej _)
    have b1:(0:Int)≤x+(C1.length:Int)+1:=by omega
    have b2:x+(C1.length:Int)+1<n:=by simp at hlen;omega
    have b3:(0:Int)≤x+(C1.length:Int):=by omega
    have b4:x+(C1.length:Int)<n:=by omega
    refine⟨ini_i64.2 (by omega),ini_i64.2 (by omega),_,rfl,b1,b2,u.a1,u.n1,u.c1,u.a2,u.n2,u.c2,gu.1,_,rfl,b3,b4,v.a1,v.n1,v.c1,v.a2,v.n2,v.c2,gv.1,_,rfl,b3,b4,fun w5 hk5=>?_⟩
    have hc5:=hc4.kp0 hk5
    obtain⟨s1,s2,s3,s4⟩:=hc5.set (i:=(x+(C1.length:Int)).toNat) (x:=u) (by rw[ei];simp) (gu.2.kp0 hk5)
    refine⟨s1,s2,?_⟩
    rintro w6 rfl
    obtain⟨t1,t2,t3,t4⟩:=s3.set (i:=(x+(C1.length:Int)+1).toNat) (x:=v) (by rw[ej];simp) ((gv.2.kp0 hk5).kp s4 (by simp))
    refine⟨_,rfl,b1,b2,t1,t2,?_⟩
    rintro w7 rfl
    refine⟨ini_i64.2 (by omega),⟨C1++[u],C2',?_,by simp,((hk4.trans (hk5.mono (by simp))).trans s4).trans t4,?_⟩,?_⟩
    ·rw[show x+(C1.length:Int)+1=x+((C1++[u]).length:Int) by simp;omega]
    ·rw[set_mid ei,show(P++C1)++u::u::(C2'++(B2++Q))=((P++C1)++[u])++u::(C2'++(B2++Q)) from by simp,set_mid (by rw[ej];simp)]at t3
     simpa[RC.cs]using t3
    ·simp only[List.length_append,List.length_cons];omega
   ·have h0:=len_zero (l:=C2) (by simp at hy;omega)
    subst h0
    rw[List.append_nil]at *
    refine⟨rfl,hk4,_,hc4,C1++v::B2,by simp,?_,pw_ins pB (fun u hu=>?_) (fun u hu=>?_)⟩
    ·exact List.perm_middle
    ·obtain⟨t,ht,rfl⟩:=List.getElem_of_mem hu
     simp at hB1
     exact leC_of_lt (hlo t _ (by omega) (by rw[List.getElem?_append_left ht,List.getElem?_eq_getElem ht]))
    ·obtain⟨t,ht,rfl⟩:=List.getElem_of_mem hu
     simp at hB1
     exact leC_of_nlt (hhi (p+t) _ (by omega) (by rw[List.getElem?_append_right (by omega),show p+t - C1.length=t from by omega,List.getElem?_eq_getElem ht]))
 ·
  obtain⟨v,B',rfl⟩:=len_cons hB
  have hB':=len_zero (l:=B') (by simp at hz;omega)
  subst hB'
  refine⟨fun vs w'=>∃(p q:Nat),vs=[.int .i64 (x+p),.int .i64 (x+q)]∧p≤q∧q≤A.length∧(∀t u,t<p→A[t]?=some u→¬ltC v u)∧(∀t u,q≤t→A[t]?=some u→ltC v u)∧KpL [b] w w'∧CellsAt w' b (P++(A++([v]++Q))),
   fun vs _=>match vs with|[.int _ i,.int _ j]=>j.toNat - i.toNat|_=>0,⟨0,A.length,by simp;omega,by omega,by omega,by omega,fun t u ht hu=>by have:=hge hu;omega,KpL.refl _ _,h⟩,?_⟩
  rintro n1 n2 w1 ⟨p,q,hv,hpq,hq,hlo,hhi,hk,hc⟩
  simp only[List.cons.injEq,Value.int.injEq,true_and,and_true]at hv
  obtain⟨rfl,rfl⟩:=hv
  constructor
  ·intro hlt
   rw[half_eq (by omega) (by omega)]
   have em:(x+(p:Int)+(x+(q:Int))) / 2=x+((p+q) / 2:Nat):=by omega
   rw[em]
   have hm:(p+q) / 2<A.length:=by omega
   have hAm:=List.getElem?_eq_getElem hm
   have gA:=getA hc hAm rfl
   have gB:=getB hc (t:=0) (u:=v) rfl (i:=y) (by omega)
   generalize A[(p+q) / 2]=u at *
   refine⟨ini_i64.2 (by omega),_,rfl,by omega,by simp at hlen;omega,v.a1,v.n1,v.c1,v.a2,v.n2,v.c2,gB.1,_,rfl,by omega,by omega,u.a1,u.n1,u.c1,u.a2,u.n2,u.c2,gA.1,hf.ok,fun w2 hk2=>⟨(hf.calls v u w2 (hk.trans (hk2.mono (by simp))) (gB.2.kp0 hk2) (gA.2.kp0 hk2)).mono ?_⟩⟩
   rintro e w3 ⟨rfl,hk3⟩
   have hk03:KpL [b] w w3:=hk.trans ((hk2.trans hk3).mono (by simp))
   have hc3:=hc.kp0 (hk2.trans hk3)
   refine⟨_,rfl,[],hk3,fun hnn=>⟨ini_i64.2 (by omega),⟨(p+q) / 2+1,q,?_,by omega,hq,fun t s ht hs=>?_,hhi,hk03,hc3⟩,by dsimp only;omega⟩,fun hneg=>⟨⟨p,(p+q) / 2,rfl,by omega,by omega,hlo,fun t s ht hs=>?_,hk03,hc3⟩,by dsimp only;omega⟩⟩
   ·rw[show x+(((p+q) / 2:Nat):Int)+1=x+(((p+q) / 2+1:Nat):Int) by omega]
   ·exact fun hc'=>hnn (lt_le hc' (pw_get pA (by omega) hs hAm))
   ·exact lt_le (Classical.not_not.1 hneg) (pw_get pA ht hAm hs)
  ·intro hge'
   have hpe:p=q:=by omega
   subst hpe
   obtain⟨A1,A2,rfl,hA1⟩:=len_split hq
   simp only[List.length_append]at hlen hq hN hy
   refine⟨fun vs w'=>∃(C1 C2:List RC),vs=[.int .i64 (x+p+C1.length)]∧A2=C1++C2∧KpL [b] w w'∧CellsAt w' b (P++(A1++(C1++(v::(C2++Q))))),fun vs _=>match vs with|[.int _ i]=>i.toNat|_=>0,
    ⟨A2,[],by rw[show y=x+p+A2.length by omega],by simp,hk,by simpa using hc⟩,?_⟩
   rintro n8 w4 ⟨C1,C2,hv,rfl,hk4,hc4⟩
   simp only[List.cons.injEq,Value.int.injEq,true_and,and_true]at hv
   subst hv
   simp only[List.length_append]at hlen
   refine⟨fun hlt=>?_,fun hge2=>?_⟩
   ·obtain⟨C1',u,rfl⟩:=len_snoc (l:=C1) (by omega)
    simp only[List.length_append,List.length_cons,List.length_nil,Nat.zero_add]at hlen hlt ⊢
    have e0:P++(A1++((C1'++[u])++(v::(C2++Q))))=(P++(A1++C1'))++u::v::(C2++Q):=by simp
    rw[e0]at hc4
    have ej:(x+(p:Int)+((C1'.length+1:Nat):Int) - 1).toNat=(P++(A1++C1')).length:=by simp;omega
    have ei:(x+(p:Int)+((C1'.length+1:Nat):Int)).toNat=((P++(A1++C1'))++[u]).length:=by simp;omega
    have gu:=hc4.get (i:=(x+(p:Int)+((C1'.length+1:Nat):Int) - 1).toNat) (x:=u) (get_mid ej _)
    have gv:=hc4.get (i:=(x+(p:Int)+((C1'.length+1:Nat):Int)).toNat) (x:=v) (by
     rw[show(P++(A1++C1'))++u::v::(C2++Q)=((P++(A1++C1'))++[u])++v::(C2++Q) from by simp]
     exact get_mid ei _)
    have b1:(0:Int)≤x+(p:Int)+((C1'.length+1:Nat):Int):=by omega
    have b2:x+(p:Int)+((C1'.length+1:Nat):Int)<n:=by omega
    have b3:(0:Int)≤x+(p:Int)+((C1'.length+1:Nat):Int) - 1:=by omega
    have b4:x+(p:Int)+((C1'.length+1:Nat):Int) - 1<n:=by omega
    refine⟨ini_i64.2 (by omega),ini_i64.2 (by omega),_,rfl,b3,b4,u.a1,u.n1,u.c1,u.a2,u.n2,u.c2,gu.1,_,rfl,b1,b2,v.a1,v.n1,v.c1,v.a2,v.n2,v.c2,gv.1,_,rfl,b1,b2,fun w5 hk5=>?_⟩
    have hc5:=hc4.kp0 hk5
    obtain⟨s1,s2,s3,s4⟩:=hc5.set (i:=(x+(p:Int)+((C1'.length+1:Nat):Int)).toNat) (x:=u) (by rw[ei];simp) (gu.2.kp0 hk5)
    refine⟨s1,s2,?_⟩
    rintro w6 rfl
    obtain⟨t1,t2,t3,t4⟩:=s3.set (i:=(x+(p:Int)+((C1'.length+1:Nat):Int) - 1).toNat) (x:=v) (by rw[ej];simp) ((gv.2.kp0 hk5).kp s4 (by simp))
    refine⟨_,rfl,b3,b4,t1,t2,?_⟩
    rintro w7 rfl
    refine⟨ini_i64.2 (by omega),⟨C1',u::C2,?_,by simp,((hk4.trans (hk5.mono (by simp))).trans s4).trans t4,?_⟩,?_⟩
    ·rw[show x+(p:Int)+((C1'.length+1:Nat):Int) - 1=x+p+(C1'.length:Int) by omega]
    ·rw[show(P++(A1++C1'))++u::v::(C2++Q)=((P++(A1++C1'))++[u])++v::(C2++Q) from by simp,set_mid ei,show((P++(A1++C1'))++[u])++u::(C2++Q)=(P++(A1++C1'))++u::u::(C2++Q) from by simp,set_mid ej]at t3
     simpa[RC.cs]using t3
    ·omega
   ·have h0:=len_zero (l:=C1) (by omega)
    subst h0
    rw[List.nil_append]at *
    refine⟨rfl,hk4,_,hc4,A1++v::C2,by simp,?_,pw_ins pA (fun u hu=>?_) (fun u hu=>?_)⟩
    ·exact List.perm_middle.trans (List.perm_append_singleton v (A1++C2)).symm
    ·obtain⟨t,ht,rfl⟩:=List.getElem_of_mem hu
     exact leC_of_nlt (hlo t _ (by omega) (by rw[List.getElem?_append_left ht,List.getElem?_eq_getElem ht]))
    ·obtain⟨t,ht,rfl⟩:=List.getElem_of_mem hu
     exact leC_of_lt (hhi (p+t) _ (by omega) (by rw[List.getElem?_append_right (by omega),show p+t - A1.length=t from by omega,List.getElem?_eq_getElem ht]))
 ·
  rw[half_eq (by omega) (by omega)]
  generalize hmid:(x+z) / 2=mid
  obtain⟨lo,hi,hlohi⟩:∃lo hi:Int,(mid<y→lo=mid+y - z∧hi=mid)∧(¬mid<y→lo=x∧hi=y):=by
   by_cases h:mid<y
   ·exact⟨_,_,fun _=>⟨rfl,rfl⟩,fun h'=>absurd h h'⟩
   ·exact⟨_,_,fun h'=>absurd h' h,fun _=>⟨rfl,rfl⟩⟩
  have hb0:x≤lo∧lo≤hi∧hi≤y∧hi≤mid∧mid+y - z≤lo:=by
   by_cases h:mid<y
   ·have:=hlohi.1 h;omega
   ·have:=hlohi.2 h;omega
  refine⟨ini_i64.2 (by omega),fun vs w'=>vs=[.int .i64 lo,.int .i64 hi]∧w'=w,⟨fun h=>⟨ini_i64.2 (by omega),?_,rfl⟩,fun h=>⟨?_,rfl⟩⟩,?_⟩
  ·rw[(hlohi.1 h).1,(hlohi.1 h).2]
  ·rw[(hlohi.2 h).1,(hlohi.2 h).2]
  rintro n9 n10 w15 ⟨hv,rfl⟩
  simp only[List.cons.injEq,Value.int.injEq,true_and,and_true]at hv
  obtain⟨rfl,rfl⟩:=hv
  let inv:Int→Int→World→Prop:=fun s r w'=>n9≤s∧s≤r∧r≤n10∧(∀t:Int,n9≤t→t<s→∀u v,A[(t - x).toNat]?=some u→B[(mid - 1 - t).toNat]?=some v→¬ltC v u)∧
   (∀t:Int,r≤t→t<n10→∀u v,A[(t - x).toNat]?=some u→B[(mid - 1 - t).toNat]?=some v→ltC v u)∧KpL [b] w15 w'∧CellsAt w' b (P++(A++(B++Q)))
  refine⟨ini_i64.2 (by omega),fun vs w'=>∃s:Int,vs=[.int .i64 s,.int .i64 s]∧inv s s w',⟨fun vs w'=>∃s r:Int,vs=[.int .i64 s,.int .i64 r]∧inv s r w',fun vs _=>match vs with|[.int _ i,.int _ j]=>j.toNat - i.toNat|_=>0,
   ⟨n9,n10,rfl,by omega,by omega,by omega,fun t h1 h2=>by omega,fun t h1 h2=>by omega,KpL.refl _ _,h⟩,?_⟩,?_⟩
  ·rintro n11 n12 w16 ⟨s,r,hv,i1,i2,i3,i4,i5,hk,hc⟩
   simp only[List.cons.injEq,Value.int.injEq,true_and,and_true]at hv
   obtain⟨rfl,rfl⟩:=hv
   refine⟨fun hlt=>?_,fun hge'=>?_⟩
   ·rw[half_eq (by omega) (by omega)]
    generalize hcm:(n11+n12) / 2=cm
    have hc1:n11≤cm∧cm<n12:=by omega
    have hAl:(cm - x).toNat<A.length:=by omega
    have hBl:(mid - 1 - cm).toNat<B.length:=by omega
    have hAm:=List.getElem?_eq_getElem hAl
    have hBm:=List.getElem?_eq_getElem hBl
    have gA:=getA hc hAm (i:=cm) (by omega)
    have gB:=getB hc hBm (i:=mid+y - 1 - cm) (by omega)
    generalize A[(cm - x).toNat]=u at *
    generalize B[(mid - 1 - cm).toNat]=v at *
    refine⟨ini_i64.2 (by omega),ini_i64.2 (by omega),_,rfl,by omega,by omega,v.a1,v.n1,v.c1,v.a2,v.n2,v.c2,gB.1,_,rfl,by omega,by omega,u.a1,u.n1,u.c1,u.a2,u.n2,u.c2,gA.1,hf.ok,fun w2 hk2=>⟨(hf.calls v u w2 (hk.trans (hk2.mono (by simp))) (gB.2.kp0 hk2) (gA.2.kp0 hk2)).mono ?_⟩⟩
    rintro e w3 ⟨rfl,hk3⟩
    have hk03:KpL [b] w15 w3:=hk.trans ((hk2.trans hk3).mono (by simp))
    have hc3:=hc.kp0 (hk2.trans hk3)
    refine⟨_,rfl,[],hk3,fun hnn=>⟨ini_i64.2 (by omega),⟨cm+1,n12,rfl,by omega,by omega,by omega,fun t h1 h2 u' v' hu' hv'=>?_,i5,hk03,hc3⟩,by dsimp only;omega⟩,fun hneg=>⟨⟨n11,cm,rfl,by omega,by omega,by omega,i4,fun t h1 h2 u' v' hu' hv'=>?_,hk03,hc3⟩,by dsimp only;omega⟩⟩
    ·
     have q1:leC u' u:=pw_get pA (show(t - x).toNat≤(cm - x).toNat by omega) hu' hAm
     have q2:leC v v':=pw_get pB (show(mid - 1 - cm).toNat≤(mid - 1 - t).toNat by omega) hBm hv'
     exact fun hc'=>hnn (lt_le (le_lt q2 hc') q1)
    ·have q1:leC u u':=pw_get pA (show(cm - x).toNat≤(t - x).toNat by omega) hAm hu'
     have q2:leC v' v:=pw_get pB (show(mid - 1 - t).toNat≤(mid - 1 - cm).toNat by omega) hv' hBm
     exact lt_le (le_lt q2 (Classical.not_not.1 hneg)) q1
   ·have:n11=n12:=by omega
    subst this
    exact⟨n11,rfl,i1,i2,i3,i4,i5,hk,hc⟩
  ·rintro n15 n14 w19 ⟨s,hv,i1,i2,i3,i4,i5,hk,hc⟩
   simp only[List.cons.injEq,Value.int.injEq,true_and,and_true]at hv
   obtain⟨rfl,rfl⟩:=hv
   obtain⟨A1,A2,rfl,hA1⟩:=len_split (l:=A) (n:=(n14 - x).toNat) (by omega)
   obtain⟨B1,B2,rfl,hB1⟩:=len_split (l:=B) (n:=(mid - n14).toNat) (by omega)
   simp only[List.length_append]at hlen hy hz hN hA hB
   obtain⟨pA1,pA2,pA12⟩:=pw_app.1 pA
   obtain⟨pB1,pB2,pB12⟩:=pw_app.1 pB
   have c12:∀u∈A1,∀v∈B2,leC u v:=by
    intro u hu v hv
    have hA1p:0<A1.length:=List.length_pos_of_mem hu
    have hB2p:0<B2.length:=List.length_pos_of_mem hv
    obtain⟨A1',u0,rfl⟩:=len_snoc hA1p
    obtain⟨v0,B2',rfl⟩:=len_cons hB2p
    simp only[List.length_append,List.length_cons,List.length_nil,Nat.zero_add]at hA1 hlen hy hz
    have hn14:n9≤n14 - 1:=by
     by_cases h:mid<y
     ·have:=hlohi.1 h;omega
     ·have:=hlohi.2 h;omega
    have:=i4 (n14 - 1) hn14 (by omega) u0 v0 (by
     rw[show(n14 - 1 - x).toNat=A1'.length from by omega];simp) (by
     rw[show(mid - 1 - (n14 - 1)).toNat=B1.length from by omega];simp)
    refine leC_trans (?_:leC u u0) (leC_trans (leC_of_nlt this) (?_:leC v0 v))
    ·rcases List.mem_append.1 hu with hu|hu
     ·exact(pw_app.1 pA1).2.2 u hu u0 (by simp)
     ·simp at hu;subst hu;exact leC_of_nlt (fun h=>by unfold ltC at h;rw[cmpL_zero.2 rfl]at h;omega)
    ·rcases List.mem_cons.1 hv with rfl|hv
     ·exact leC_of_nlt (fun h=>by unfold ltC at h;rw[cmpL_zero.2 rfl]at h;omega)
     ·exact(List.pairwise_cons.1 pB2).1 v hv
   have c21:∀v∈B1,∀u∈A2,leC v u:=by
    intro v hv u hu
    have hB1p:0<B1.length:=List.length_pos_of_mem hv
    have hA2p:0<A2.length:=List.length_pos_of_mem hu
    obtain⟨B1',v0,rfl⟩:=len_snoc hB1p
    obtain⟨u0,A2',rfl⟩:=len_cons hA2p
    simp only[List.length_append,List.length_cons,List.length_nil,Nat.zero_add]at hB1 hlen hy hz
    have hn14:n14<n10:=by
     by_cases h:mid<y
     ·have:=hlohi.1 h;omega
     ·have:=hlohi.2 h;omega
    have:=i5 n14 (by omega) hn14 u0 v0 (by
     rw[show(n14 - x).toNat=A1.length from by omega];simp) (by
     rw[show(mid - 1 - n14).toNat=B1'.length from by omega];simp)
    refine leC_trans (?_:leC v v0) (leC_trans (leC_of_lt this) (?_:leC u0 u))
    ·rcases List.mem_append.1 hv with hv|hv
     ·exact(pw_app.1 pB1).2.2 v hv v0 (by simp)
     ·simp at hv;subst hv;exact leC_of_nlt (fun h=>by unfold ltC at h;rw[cmpL_zero.2 rfl]at h;omega)
    ·rcases List.mem_cons.1 hu with rfl|hu
     ·exact leC_of_nlt (fun h=>by unfold ltC at h;rw[cmpL_zero.2 rfl]at h;omega)
     ·exact(List.pairwise_cons.1 pA2).1 u hu
   refine⟨ini_i64.2 (by omega),fun _ w'=>KpL [b] w15 w'∧CellsAt w' b (P++(A1++(B1++(A2++(B2++Q))))),⟨fun g1=>⟨fun g2=>?_,fun g2=>?_⟩,fun g1=>?_⟩,?_⟩
   ·refine⟨(rotate_ok (P:=P++A1) (A:=A2) (B:=B1) (Q:=B2++Q) (by simpa using hc) (by simp;omega) hb (by omega) (by omega) (by simp;omega) (by omega) (by omega)).mono ?_⟩
    rintro e w20 ⟨rfl,hk20,ys,hc20,rfl⟩
    exact⟨rfl,_,hk20,hk.trans hk20,by simpa using hc20⟩
   ·have h0:=len_zero (l:=B1) (by omega)
    subst h0
    exact⟨hk,by simpa using hc⟩
   ·have h0:=len_zero (l:=A2) (by omega)
    subst h0
    exact⟨hk,by simpa using hc⟩
   rintro w21 ⟨hk21,hc21⟩
   refine⟨fun _ w'=>∃S1,S1.Perm (A1++B1)∧PW S1∧KpL [b] w15 w'∧CellsAt w' b (P++(S1++(A2++(B2++Q)))),⟨fun g1=>⟨fun g2=>?_,fun g2=>?_⟩,fun g1=>?_⟩,?_⟩
   ·refine⟨(ih (P:=P) (A:=A1) (B:=B1) (Q:=A2++(B2++Q)) (by omega) hc21 (hf.at hk21) (by simp;omega) hb (by omega) (by omega) pA1 pB1 hx (by omega) (by omega)).mono ?_⟩
    rintro e w22 ⟨rfl,hk22,ys,hc22,S1,rfl,hp,hs⟩
    exact⟨rfl,_,hk22,S1,hp,hs,hk21.trans hk22,hc22⟩
   ·have h0:=len_zero (l:=B1) (by omega)
    subst h0
    exact⟨A1,by simp,pA1,hk21,by simpa using hc21⟩
   ·have h0:=len_zero (l:=A1) (by omega)
    subst h0
    exact⟨B1,by simp,pB1,hk21,by simpa using hc21⟩
   rintro w23 ⟨S1,hp1,hs1,hk23,hc23⟩
   have hl1:=hp1.length_eq
   simp only[List.length_append]at hl1
   have fin:∀{w':World} {S2:List RC},S2.Perm (A2++B2)→PW S2→KpL [b] w15 w'→CellsAt w' b (P++(S1++(S2++Q)))→
    ToC w15 b (fun ys=>∃S',ys=P++(S'++Q)∧S'.Perm (A1++A2++(B1++B2))∧PW S') (.returned (.tuple #[])) w':=by
    intro w' S2 hp2 hs2 hk' hc'
    refine⟨rfl,hk',_,hc',S1++S2,by simp,(hp1.append hp2).trans ?_,pw_app.2 ⟨hs1,hs2,fun u hu v hv=>?_⟩⟩
    ·simp only[List.append_assoc]
     refine List.Perm.append_left A1 ?_
     rw[←List.append_assoc,←List.append_assoc]
     exact List.Perm.append_right B2 List.perm_append_comm
    ·rcases List.mem_append.1 (hp1.mem_iff.1 hu) with hu|hu<;>rcases List.mem_append.1 (hp2.mem_iff.1 hv) with hv|hv
     ·exact pA12 u hu v hv
     ·exact c12 u hu v hv
     ·exact c21 u hu v hv
     ·exact pB12 u hu v hv
   refine⟨fun g1=>⟨fun g2=>?_,fun g2=>?_⟩,fun g1=>?_⟩
   ·refine⟨(ih (P:=P++S1) (A:=A2) (B:=B2) (Q:=Q) (by omega) (by simpa using hc23) (hf.at hk23) (by simp;omega) hb (by omega) (by omega) pA2 pB2 (by simp;omega) (by omega) (by omega)).mono ?_⟩
    rintro e w24 ⟨rfl,hk24,ys,hc24,S2,rfl,hp,hs⟩
    exact⟨rfl,_,hk24,fin hp hs (hk23.trans hk24) (by simpa using hc24)⟩
   ·have h0:=len_zero (l:=B2) (by omega)
    subst h0
    exact fin (S2:=A2) (by simp) pA2 hk23 (by simpa using hc23)
   ·have h0:=len_zero (l:=A2) (by omega)
    subst h0
    exact fin (S2:=B2) (by simp) pB2 hk23 (by simpa using hc23)
end Go.Vc
namespace Go.Vc
open Go Go.Proofs
theorem take_split{α:Type}(l:List α)(a m:Nat)(h:a+m≤l.length):∃P S Q,l=P++(S++Q)∧P.length=a∧S.length=m :=
 ⟨l.take a,(l.drop a).take m,(l.drop a).drop m,by rw[List.take_append_drop,List.take_append_drop],by simp;omega,by simp;omega⟩
set_option maxHeartbeats 1000000 in
theorem stable_ok{w:World}{b:Nat}{xs:List RC}{f:FuncId}{fi ca:Array Value}{n c:Nat}(h:CellsAt w b xs)(hf:CmpV w b f fi ca)(hn:n=xs.length)(hb:n≤1000000):
 Calls Tryz.prog 198 #[.slice (some ⟨b,0,none⟩) n c,.int .i64 n,.func (.func f) fi ca] w (ToC w b fun ys=>ys.Perm xs∧PW ys):=by
 refine stable_vc ⟨fun vs w'=>∃(a:Nat) (ys:List RC),vs=[.int .i64 (a:Int),.int .i64 ((a:Int)+20)]∧a≤n∧a%20=0∧KpL [b] w w'∧CellsAt w' b ys∧ys.Perm xs∧Blk 20 0 a ys,
  fun vs _=>match vs with|.int _ a::_=>n - a.toNat|_=>0,⟨0,xs,rfl,by omega,rfl,KpL.refl _ _,h,List.Perm.refl _,fun i j _ _ _ _ hj=>by omega⟩,?_⟩
 rintro n1 n2 w1 ⟨a,ys,hv,ha,ham,hk,hc,hp,hblk⟩
 simp only[List.cons.injEq,Value.int.injEq,true_and,and_true]at hv
 obtain⟨rfl,rfl⟩:=hv
 have hpl:=hp.length_eq
 refine⟨fun hle=>?_,fun hgt=>?_⟩
 ·obtain⟨P,S,Q,rfl,hP,hS⟩:=take_split ys a 20 (by omega)
  refine⟨(insertion_ok hc (hf.at hk) (by omega) hb (x:=a) (y:=(a:Int)+20) (by omega) (by omega)).mono ?_⟩
  rintro e w2 ⟨rfl,hk2,zs,hc2,S',rfl,hp',hs'⟩
  refine⟨rfl,_,hk2,ini_i64.2 (by omega),⟨a+20,_,rfl,by omega,by omega,hk.trans hk2,hc2,?_,?_⟩,by dsimp only;omega⟩
  ·exact(List.Perm.append_left P (List.Perm.append_right Q hp')).trans hp
  ·exact hblk.put hP hp'.length_eq (by omega) hs' fun i j h1 h2 h3=>div_off (by omega) ham h1 h2
 ·obtain⟨P,S,Q,rfl,hP,hS⟩:=take_split ys a (n - a) (by omega)
  have hQ:=len_zero (l:=Q) (by simp at hpl;omega)
  subst hQ
  refine⟨(insertion_ok hc (hf.at hk) (by omega) hb (x:=a) (y:=(n:Int)) (by omega) (by omega)).mono ?_⟩
  rintro e w2 ⟨rfl,hk2,zs,hc2,S',rfl,hp',hs'⟩
  have hb20:Blk 20 0 n (P++(S'++[])):=hblk.put hP hp'.length_eq (by omega) hs' fun i j h1 h2 h3=>div_off (by omega) ham h1 h2
  have hp2:(P++(S'++[])).Perm xs:=(List.Perm.append_left P (List.Perm.append_right [] hp')).trans hp
  refine⟨rfl,_,hk2,fun vs w'=>∃(s:Nat) (ys:List RC),vs=[.int .i64 (s:Int)]∧0<s∧s≤2000000∧KpL [b] w w'∧CellsAt w' b ys∧ys.Perm xs∧Blk s 0 n ys,fun vs _=>match vs with|.int _ a::_=>n - a.toNat|_=>0,
   ⟨20,_,rfl,by omega,by omega,hk.trans hk2,hc2,hp2,hb20⟩,?_⟩
  clear hc2 hb20 hp2 hp' hs' hblk hc hp hpl
  rintro n3 w4 ⟨s,ys,hv,hs0,hs1,hk4,hc4,hp4,hblk4⟩
  simp only[List.cons.injEq,Value.int.injEq,true_and,and_true]at hv
  subst hv
  refine⟨fun hlt=>⟨ini_i64.2 (by omega),fun vs w'=>∃(a:Nat) (ys:List RC),vs=[.int .i64 (a:Int),.int .i64 ((a:Int)+2*s)]∧a≤n∧a%(2*s)=0∧KpL [b] w w'∧CellsAt w' b ys∧ys.Perm xs∧Blk (2*s) 0 a ys∧Blk s a n ys,
   fun vs _=>match vs with|.int _ a::_=>n - a.toNat|_=>0,⟨0,ys,by simp,by omega,by simp,hk4,hc4,hp4,fun i j _ _ _ _ hj=>by omega,hblk4⟩,?_⟩,fun hge=>?_⟩
  ·rintro n4 n5 w5 ⟨a,ys,hv,ha,ham,hk5,hc5,hp5,hb5,hc5'⟩
   simp only[List.cons.injEq,Value.int.injEq,true_and,and_true]at hv
   obtain⟨rfl,rfl⟩:=hv
   have hpl:=hp5.length_eq
   have ham1:a%s=0:=by
    obtain⟨k,rfl⟩:=Nat.dvd_of_mod_eq_zero ham
    rw[Nat.mul_comm 2 s,Nat.mul_assoc]
    exact Nat.mul_mod_right _ _
   have ham2:(a+s)%s=0:=by rw[Nat.add_mod_right];exact ham1
   refine⟨fun hle=>⟨ini_i64.2 (by omega),?_⟩,fun hgt=>⟨ini_i64.2 (by omega),fun hm=>?_,fun hm=>?_⟩⟩
   ·obtain⟨P,S,Q,rfl,hP,hS⟩:=take_split ys a (2*s) (by omega)
    obtain⟨A,B,rfl,hA⟩:=len_split (l:=S) (n:=s) (by omega)
    have hB:B.length=s:=by simp at hS;omega
    have pA:PW A:=(show Blk s a n (P++(A++(B++Q))) by simpa using hc5').seg hP (b:=a+s) (by omega) (Nat.le_refl _) (by omega) fun i h1 h2=>div_blk hs0 ham1 h1 h2
    have pB:PW B:=(show Blk s a n ((P++A)++(B++Q)) by simpa using hc5').seg (a:=a+s) (by simp;omega) (b:=a+2*s) (by omega) (by omega) (by omega) fun i h1 h2=>div_blk hs0 ham2 h1 (by omega)
    refine⟨(symMerge_ok (A.length+B.length) (P:=P) (A:=A) (B:=B) (Q:=Q) (Nat.le_refl _) (by simpa using hc5) (hf.at hk5) (by simp at hpl ⊢;omega) hb (by omega) (by omega) pA pB (x:=(a:Int)) (y:=(a:Int)+s) (z:=(a:Int)+2*s) (by omega) (by omega) (by omega)).mono ?_⟩
    rintro e w6 ⟨rfl,hk6,zs,hc6,S',rfl,hp',hs'⟩
    have hl':=hp'.length_eq
    refine⟨rfl,_,hk6,ini_i64.2 (by omega),ini_i64.2 (by omega),⟨a+2*s,_,by simp,by omega,by rw[Nat.add_mod_right];exact ham,hk5.trans hk6,hc6,?_,?_,?_⟩,by dsimp only;omega⟩
    ·exact(List.Perm.append_left P (List.Perm.append_right Q hp')).trans hp5
    ·exact hb5.put hP hl' (by omega) hs' fun i j h1 h2 h3=>div_off (by omega) ham h1 h2
    ·exact hc5'.rest hl' hP (by omega)
   ·obtain⟨P,S,Q,rfl,hP,hS⟩:=take_split ys a (n - a) (by omega)
    have hQ:=len_zero (l:=Q) (by simp at hpl;omega)
    subst hQ
    obtain⟨A,B,rfl,hA⟩:=len_split (l:=S) (n:=s) (by omega)
    have hB:B.length=n - a - s:=by simp at hS;omega
    have pA:PW A:=(show Blk s a n (P++(A++(B++[]))) by simpa using hc5').seg hP (b:=a+s) (by omega) (Nat.le_refl _) (by omega) fun i h1 h2=>div_blk hs0 ham1 h1 h2
    have pB:PW B:=(show Blk s a n ((P++A)++(B++[])) by simpa using hc5').seg (a:=a+s) (by simp;omega) (b:=n) (by omega) (by omega) (by omega) fun i h1 h2=>div_blk hs0 ham2 h1 (by omega)
    refine⟨(symMerge_ok (A.length+B.length) (P:=P) (A:=A) (B:=B) (Q:=[]) (Nat.le_refl _) (by simpa using hc5) (hf.at hk5) (by simp at hpl ⊢;omega) hb (by omega) (by omega) pA pB (x:=(a:Int)) (y:=(a:Int)+s) (z:=(n:Int)) (by omega) (by omega) (by omega)).mono ?_⟩
    rintro e w6 ⟨rfl,hk6,zs,hc6,S',rfl,hp',hs'⟩
    have hl':=hp'.length_eq
    refine⟨rfl,_,hk6,ini_i64.2 (by omega),⟨2*s,_,by rw[show(s:Int)*2=((2*s:Nat):Int) by omega],by omega,by omega,hk5.trans hk6,hc6,?_,?_⟩,by dsimp only;omega⟩
    ·exact(List.Perm.append_left P (List.Perm.append_right [] hp')).trans hp5
    ·exact hb5.put hP hl' (by omega) hs' fun i j h1 h2 h3=>div_off (by omega) ham h1 h2
   ·obtain⟨P,S,Q,rfl,hP,hS⟩:=take_split ys a (n - a) (by omega)
    have pS:PW S:=hc5'.seg hP (b:=n) (by omega) (Nat.le_refl _) (by omega) fun i h1 h2=>div_blk hs0 ham1 h1 (by omega)
    refine⟨ini_i64.2 (by omega),⟨2*s,_,by rw[show(s:Int)*2=((2*s:Nat):Int) by omega],by omega,by omega,hk5,hc5,hp5,?_⟩,by dsimp only;omega⟩
    exact hb5.put hP rfl (by omega) pS fun i j h1 h2 h3=>div_off (by omega) ham h1 h2
  ·have hpl:=hp4.length_eq
   refine⟨rfl,hk4,ys,hc4,hp4,List.pairwise_iff_getElem.2 fun i j hi hj hij=>?_⟩
   refine hblk4 i j _ _ (Nat.zero_le _) hij (by omega) ?_ (List.getElem?_eq_getElem hi) (List.getElem?_eq_getElem hj)
   rw[Nat.div_eq_of_lt (by omega),Nat.div_eq_of_lt (by omega)]
theorem sortStable_ok{w:World}{b:Nat}{xs:List RC}{f:FuncId}{fi ca:Array Value}{n c:Nat}(h:CellsAt w b xs)(hf:CmpV w b f fi ca)(hn:n=xs.length)(hb:n≤1000000):
 Calls Tryz.prog 167 #[.slice (some ⟨b,0,none⟩) n c,.func (.func f) fi ca] w (ToC w b fun ys=>ys.Perm xs∧PW ys):=by
 refine sortStable_vc ⟨(stable_ok h hf hn hb).mono ?_⟩
 rintro e w1 ⟨rfl,hk,h⟩
 exact⟨rfl,_,hk,rfl,hk,h⟩
theorem sortStable_nil{w:World}{f:FuncId}{fi ca:Array Value}:Calls Tryz.prog 167 #[.slice none 0 0,.func (.func f) fi ca] w (PureR (.tuple #[]) w):=by
 have hi:∀{w:World},Calls Tryz.prog 210 #[.slice none 0 0,.int .i64 0,.int .i64 0,.func (.func f) fi ca] w (PureR (.tuple #[]) w):=fun {w} =>
  insertion_vc ⟨ini_i64.2 (by omega),fun vs w'=>vs=[.int .i64 1]∧w'=w,fun _ _=>0,⟨rfl,rfl⟩,by
   rintro n1 w1 ⟨hv,rfl⟩
   simp only[List.cons.injEq,Value.int.injEq,true_and,and_true]at hv
   subst hv
   exact⟨fun h=>by simp at h,fun _=>⟨rfl,KpL.refl _ _⟩⟩⟩
 refine sortStable_vc ⟨(show Calls Tryz.prog 198 #[.slice none 0 0,.int .i64 0,.func (.func f) fi ca] w (PureR (.tuple #[]) w) from ?_).mono ?_⟩
 ·refine stable_vc ⟨fun vs w'=>vs=[.int .i64 0,.int .i64 20]∧w'=w,fun _ _=>0,⟨rfl,rfl⟩,?_⟩
  rintro n1 n2 w1 ⟨hv,rfl⟩
  simp only[List.cons.injEq,Value.int.injEq,true_and,and_true]at hv
  obtain⟨rfl,rfl⟩:=hv
  refine⟨fun h=>by simp at h,fun _=>⟨hi.mono ?_⟩⟩
  rintro e w2 ⟨rfl,hk⟩
  refine⟨rfl,_,hk,fun vs w'=>vs=[.int .i64 20]∧w'=w2,fun _ _=>0,⟨rfl,rfl⟩,?_⟩
  rintro n3 w4 ⟨hv,rfl⟩
  simp only[List.cons.injEq,Value.int.injEq,true_and,and_true]at hv
  subst hv
  exact⟨fun h=>by simp at h,fun _=>⟨rfl,hk⟩⟩
 ·rintro e w1 ⟨rfl,hk⟩
  exact⟨rfl,_,hk,rfl,hk⟩
theorem makeF_ok(a1 a2:Option Addr)(n1 c1 n2 c2:Nat)(w:World):Calls Tryz.prog 137 #[.agg #[.slice a1 n1 c1,.slice a2 n2 c2]] w (PureR (.slice a1 n1 c1) w):=makeF_vc fun _ _ _ hk=>⟨rfl,hk⟩
theorem cmpBy_cmp{w:World}{b k:Nat}(hk:w.heap[k]?=some (.cells #[.func (.func 137) #[] #[]] 223 (0,0)))(hkb:k≠b):CmpV w b 168 #[] #[.pointer (some ⟨k,0,none⟩)]:=by
 refine⟨⟨_,_,Tryz.func168,rfl⟩,fun x y w1 hk1 hx hy=>?_⟩
 have hk':w1.heap[k]?=some (.cells #[.func (.func 137) #[] #[]] 223 (0,0)):=(hk1.blk k (block_lt hk) (by simpa using hkb)).trans hk
 obtain⟨b1,p1,q1,b2,p2,q2,hcx,hx1,hx2⟩:=hx.cell
 obtain⟨b3,p3,q3,b4,p4,q4,hcy,hy1,hy2⟩:=hy.cell
 simp only[RC.cs,List.cons.injEq,Value.slice.injEq,and_true]at hcx hcy
 obtain⟨⟨rfl,rfl,rfl⟩,rfl,rfl,rfl⟩:=hcx
 obtain⟨⟨rfl,rfl,rfl⟩,rfl,rfl,rfl⟩:=hcy
 refine Calls.mono (R:=PureR (.int .i64 (cmpL x.c.at_ y.c.at_)) w1) (cmpBy_vc hk' fun j1 hj1 j2 hj2=>⟨⟨_,_,Tryz.func137,rfl⟩,fun w2 hk2 hkn=>⟨(makeF_ok _ _ _ _ _ _ w2).mono ?_⟩⟩) fun _ _ h=>h
 rintro e w3 ⟨rfl,hk3⟩
 refine⟨_,_,_,rfl,[],hk3,⟨⟨by simp⟩,⟨by simp⟩,⟨by simp⟩⟩,fun hkn3=>⟨⟨ldA_blk hkn3.1 0 _ rfl,ldA_blk hkn3.2.2 0 _ rfl,trivial⟩,⟨_,_,Tryz.func137,rfl⟩,fun _=>⟨(makeF_ok _ _ _ _ _ _ w3).mono ?_⟩⟩⟩
 rintro e w4 ⟨rfl,hk4⟩
 have hk14:=(hk2.trans hk3).trans hk4
 refine⟨_,_,_,rfl,[],hk4,⟨⟨by simp⟩,⟨by simp⟩,⟨by simp⟩⟩,fun _=>⟨(compareS_ok (hx1.kp0 hk14) (hy1.kp0 hk14)).mono ?_⟩⟩
 rintro e w5 ⟨rfl,hk5⟩
 exact⟨_,rfl,hk5,fun _=>⟨rfl,hk14.trans hk5⟩⟩
end Go.Vc
namespace Go.Vc
open Go Go.Proofs
theorem Acc.cells{M:List Nat}{w:World}{cs:List Cell}{ad:Addr}{n c:Nat}(h:Acc tCell M w cs (some ad) n c):
 ∃b xs,ad=⟨b,0,none⟩∧xs.map RC.c=cs∧CellsAt w b xs∧(∀x∈xs,R tCell (b::M) w x.c x.cs)∧b∉M:=by
 obtain⟨b,arr,T,rfl,hbM,hb,hsz,hel⟩:=h.at_ ad rfl
 have hn:=h.len
 have hcap:=h.cap
 have hsz':arr.size=c*2:=hsz
 have key:∀m,m≤cs.length→∃xs:List RC,xs.map RC.c=cs.take m∧xs.flatMap RC.cs=arr.toList.take (m*2)∧∀x∈xs,R tCell (b::M) w x.c x.cs:=by
  intro m
  induction m with
  |zero=>intro _;exact⟨[],by simp,by simp,by simp⟩
  |succ m ih =>
   intro hm
   obtain⟨xs,h1,h2,h3⟩:=ih (by omega)
   have hm':m<cs.length:=by omega
   obtain⟨cells,hR,hat⟩:=hel m cs[m] (List.getElem?_eq_getElem hm')
   obtain⟨a1,n1,c1,a2,n2,c2,rfl,_,_⟩:=R.cell (M:=b::M) (w:=w) hR
   have e0:=hat 0 _ rfl
   have e1:=hat 1 _ rfl
   have hz:tCell.sz=2:=rfl
   rw[hz]at e0 e1
   simp only[Nat.zero_add,Nat.add_zero]at e0 e1
   refine⟨xs++[⟨a1,n1,c1,a2,n2,c2,cs[m]⟩],?_,?_,fun x hx=>?_⟩
   ·rw[List.map_append,h1,←List.take_append_getElem hm'];rfl
   ·rw[List.flatMap_append,h2,show(m+1)*2=m*2+1+1 from by omega]
    have l0:=(List.getElem?_eq_some_iff.1 e0).1
    have l1:=(List.getElem?_eq_some_iff.1 e1).1
    rw[←List.take_append_getElem l1,←List.take_append_getElem l0,(List.getElem?_eq_some_iff.1 e0).2,(List.getElem?_eq_some_iff.1 e1).2]
    simp[RC.cs]
   ·rcases List.mem_append.1 hx with hx|hx
    ·exact h3 x hx
    ·simp at hx;subst hx;exact hR
 obtain⟨xs,h1,h2,h3⟩:=key cs.length (Nat.le_refl _)
 refine⟨b,xs,rfl,by rw[h1,List.take_length],⟨⟨arr.toList.drop (cs.length*2),T,?_⟩,fun x hx=>(h3 x hx).weak (by simp)⟩,h3,hbM⟩
 rw[h2,List.take_append_drop]
 simpa using hb
theorem CellsAt.R{M:List Nat}{w:World}{b:Nat}{xs:List RC}(h:CellsAt w b xs)(hR:∀x∈xs,Go.Vc.R tCell M w x.c x.cs)(hM:b∉M){c:Nat}(hc:xs.length≤c)(hm:xs.length≤maxSl):Go.Vc.R (tSl tCell) M w (xs.map RC.c) [.slice (some ⟨b,0,none⟩) xs.length c]:=by
 obtain⟨rest,T,hb⟩:=h.blk
 refine⟨_,_,by rw[List.length_map],by rw[List.length_map];exact hc,by rw[List.length_map];exact hm,fun _=>⟨b,0,_,T,_,rfl,⟨block_lt hb,hM⟩,hb,fun i x hx=>?_⟩⟩
 simp only[List.getElem?_map,Option.map_eq_some_iff]at hx
 obtain⟨r,hr,rfl⟩:=hx
 refine⟨r.cs,hR r (List.mem_of_getElem? hr),fun j v hv=>?_⟩
 have hg:=(h.get hr).1.at_ j v hv
 rw[add_lit,add_lit,cell_of_block hb]at hg
 show(xs.flatMap RC.cs++rest).toArray.toList[0+i*2+j]?=_
 simpa using hg
theorem sortBy_ok{M:List Nat}{w:World}{cs:List Cell}{a:Option Addr}{n c:Nat}(h:Acc tCell M w cs a n c)(hb:n≤1000000):
 Calls Tryz.prog 136 #[.slice a n c,.func (.func 137) #[] #[]] w fun e w'=>e=.returned (.tuple #[])∧KpL (blkL a) w w'∧∃cs':List Cell,cs'.Perm cs∧cs'.Pairwise (fun x y=>cmpL x.at_ y.at_≤0)∧R (tSl tCell) M w' cs' [.slice a n c]:=by
 refine sortBy_vc fun k hk w1 hw1 hkn=>?_
 have hA:=h.kp0 hw1
 cases ha:a with
 |none =>
  subst ha
  have h0:=h.nil rfl
  have h1:=h.cap
  have h2:=h.len
  have hcs:=len_zero (l:=cs) (by omega)
  subst hcs
  have:n=0:=by omega
  subst this h0
  refine⟨sortStable_nil.mono ?_⟩
  rintro e w2 ⟨rfl,hk2⟩
  exact⟨rfl,[],hk2,⟨by simp⟩,fun _=>⟨rfl,(hw1.trans hk2).mono (by simp),[],List.Perm.refl _,List.Pairwise.nil,R.sl_nil _ _ _ _ _⟩⟩
 |some ad =>
  subst ha
  obtain⟨b,xs,rfl,hxs,hC,hR,hbM⟩:=hA.cells
  have hn:=h.len
  have hcap:=h.cap
  have hbl:b<w.heap.size:=(h.blk_lt b (by simp[blkL])).1
  have hln:xs.length=cs.length:=by rw[←hxs,List.length_map]
  refine⟨(sortStable_ok hC (cmpBy_cmp hkn (by omega)) (by omega) hb).mono ?_⟩
  rintro e w2 ⟨rfl,hk2,ys,hC2,hp,hs⟩
  have hlp:=hp.length_eq
  have hmx:maxSl=140737488355328:=rfl
  refine⟨rfl,[b],hk2,⟨by simp;omega⟩,fun _=>⟨rfl,(hw1.mono (by simp)).trans hk2,ys.map RC.c,?_,?_,?_⟩⟩
  ·rw[←hxs];exact hp.map _
  ·rw[List.pairwise_map];exact hs
  ·have:=hC2.R (M:=M) (c:=c) (fun x hx=>((hR x (hp.mem_iff.1 hx)).kp hk2 (by simp)).weak (by intro x hx;simp[hx])) hbM (by omega) (by omega)
   rw[show ys.length=n from by omega]at this
   exact this
theorem apC:ApT Tryz.prog 56 56 147 2 48:=apB_sound (by kernel_rfl)
theorem fresh_ok{M M1 M2 M3:List Nat}{w:World}{ds:List Dim}{ats:List Attr}{cells:List Cell}{a1 a2 a3:Option Addr}{n1 c1 n2 c2 n3 c3:Nat}(hM:∀b∈M,b<w.heap.size)
 (h1:R (tSl tDim) M1 w ds [.slice a1 n1 c1])(h2:R (tSl tAttr) M2 w ats [.slice a2 n2 c2])(h3:R (tSl tCell) M3 w cells [.slice a3 n3 c3])(hd:ds.length≤1000)(ha:ats.length≤1000)(hc:cells.length≤4096)(hcl:∀c∈cells,c.at_.length≤1000∧c.vals.length≤1000):
 Calls Tryz.prog 135 #[.slice a1 n1 c1,.slice a2 n2 c2,.slice a3 n3 c3] w fun e w'=>∃b1 p1 q1 b2 p2 q2 b3 p3 q3,e=.returned (.agg #[.slice b1 p1 q1,.slice b2 p2 q2,.slice b3 p3 q3])∧KpL [] w w'∧
  R (tSl tDim) (blkL b3++M) w' ds [.slice b1 p1 q1]∧R (tSl tAttr) (blkL b3++M) w' ats [.slice b2 p2 q2]∧Acc tCell M w' cells b3 p3 q3∧∀b∈blkL b3,w.heap.size≤b:=by
 have hmx:maxSl=140737488355328:=rfl
 obtain⟨rfl,_,_⟩:=h1.sl_len
 obtain⟨rfl,_,_⟩:=h2.sl_len
 obtain⟨rfl,_,_⟩:=h3.sl_len
 refine fresh_vc fun k1 hk1 w1 hw1 hkn1=>?_
 have hM1:∀b∈k1::M,b<w1.heap.size:=by
  intro b hb
  rcases List.mem_cons.1 hb with rfl|hb
  ·exact block_lt hkn1
  ·exact Nat.lt_of_lt_of_le (hM b hb) hw1.size
 refine⟨(clone164_ok (M:=k1::M) hM1 (by omega) (h1.kp0 hw1)).mono ?_⟩
 rintro e w2 ⟨b1,p1,q1,rfl,hC1⟩
 refine⟨_,_,_,rfl,hC1.kpn,fun hkn2=>⟨(clone165_ok (M:=k1::M) (fun b hb=>Nat.lt_of_lt_of_le (hM1 b hb) hC1.kpn.size) (by omega) ((h2.kp0 hw1).kp0 hC1.kpn)).mono ?_⟩⟩
 rintro e w3 ⟨b2,p2,q2,rfl,hC2⟩
 have hw03:KpL [] w w3:=(hw1.trans hC1.kpn).trans hC2.kpn
 have l1:=hC1.acc.len
 have l2:=hC2.acc.len
 have r1:R (tSl tDim) (k1::M) w3 ds [.slice b1 p1 q1]:=(hC1.acc.kp0 hC2.kpn).done (by omega)
 have r2:R (tSl tAttr) (k1::M) w3 ats [.slice b2 p2 q2]:=hC2.acc.done (by omega)
 refine⟨_,_,_,rfl,hC2.kpn,fun k6 hk6=>⟨fun vs w'=>∃(i:Nat) (a:Option Addr) (n c:Nat),vs=[.int .i64 (i:Int),.slice b1 p1 q1,.slice b2 p2 q2,.slice a n c]∧i≤cells.length∧KpL [] w w'∧k1<w'.heap.size∧k6<w'.heap.size∧
  R (tSl tDim) (blkL a++(k6::k1::M)) w' ds [.slice b1 p1 q1]∧R (tSl tAttr) (blkL a++(k6::k1::M)) w' ats [.slice b2 p2 q2]∧Acc tCell (k6::k1::M) w' (cells.take i) a n c∧∀b∈blkL a,w.heap.size≤b,
  fun vs _=>match vs with|.int _ i::_=>cells.length - i.toNat|_=>0,fun w4 hw4 hkn4=>?_,?_⟩⟩
 ·refine⟨0,none,0,0,rfl,by omega,hw03.trans hw4,block_lt hkn4.2,block_lt hkn4.1,?_,?_,Acc.nil' _ ?_,by simp[blkL]⟩
  ·exact r1.cons hw4 hk6
  ·exact r2.cons hw4 hk6
  ·intro b hb
   rcases List.mem_cons.1 hb with rfl|hb
   ·exact block_lt hkn4.1
   ·have:=hM1 b hb;have:=hC1.kpn.size;have:=hC2.kpn.size;have:=hw4.size;omega
 rintro n1 _ _ _ _ _ _ a n c w5 hkn5 ⟨i,_,_,_,hv,hi,hk5,hk1l,hk6l,g1,g2,hA,hnew⟩
 simp only[List.cons.injEq,Value.int.injEq,Value.slice.injEq,true_and,and_true]at hv
 obtain⟨rfl,⟨rfl,rfl,rfl⟩,⟨rfl,rfl,rfl⟩,rfl,rfl,rfl⟩:=hv
 constructor
 ·intro hlt
  have gi:i<cells.length:=by omega
  have hlA:=hA.len
  rw[List.length_take,Nat.min_eq_left hi]at hlA
  obtain⟨ad,cs,rfl,hv1,hld1,_,_⟩:=(h3.kp0 hk5).sl_get gi
  obtain⟨a6,p6,q6,a7,p7,q7,rfl,hx1,hx2⟩:=hv1.cell
  have hcl':=hcl cells[i] (List.getElem_mem gi)
  refine⟨ad,rfl,by omega,hlt,fun _=>⟨_,_,_,_,_,_,hld1,fun k17 hk17 w6 hk6' hkn6=>?_⟩⟩
  have hA6:=hA.kp0 hk6'
  have hK6:∀b∈blkL a++(k6::k1::M),b<w6.heap.size:=by
   intro b hb
   rcases List.mem_append.1 hb with hb|hb
   ·exact(hA6.blk_lt b hb).1
   ·exact hA6.mlt b hb
  refine⟨(copied_ok hK6 (hx1.kp0 hk6') (hx2.kp0 hk6') (by omega) (by omega)).mono ?_⟩
  rintro e w7 ⟨a8,p8,q8,a9,p9,q9,rfl,hk7,hRc⟩
  refine⟨_,_,_,_,_,_,rfl,hk7,fun k22 hk22 w8 hk8 hkn8=>?_⟩
  have hk58:=(hk6'.trans hk7).trans hk8
  have hA8:=hA.kp0 hk58
  have s58:=hk58.size
  have s67:=(hk6'.trans hk7).size
  have s6:=hk6'.size
  refine ev_append1 apC hA8 hkn8.1 (hRc.kp0 hk8) (by omega) fun a' c' w9 hC=>⟨_,_,_,rfl,_,hC.kp,⟨⟨fun hm=>?_⟩,⟨fun hm=>?_⟩,hA8.out (by simp),hA8.out (by simp)⟩,ini_i64.2 (by omega),fun w10 hk10 _=>⟨⟨i+1,a',_,c',rfl,by omega,?_,?_,?_,?_,?_,?_,?_⟩,?_⟩⟩
  ·have:=(hA.blk_lt _ hm).1;omega
  ·have:=(hA.blk_lt _ hm).1;omega
  ·have hkw9:KpL [] w w9:=(hk5.trans hk58).more hC.kp fun x hx=>.inr (hnew x hx)
   exact hkw9.more hk10 fun x hx=>by simp at hx;subst hx;exact .inr (by have:=hw03.size;omega)
  ·have:=hC.kp.size;have:=hk10.size;omega
  ·have:=hC.kp.size;have:=hk10.size;omega
  ·exact(hC.data (g1.kp0 hk58)).kp hk10 (by simp)
  ·exact(hC.data (g2.kp0 hk58)).kp hk10 (by simp)
  ·rw[←List.take_append_getElem gi]
   exact hC.acc.kp hk10 (by simp)
  ·intro b hb
   rcases hC.own b hb with h|h
   ·exact hnew b h
   ·have:=hk5.size;omega
  ·show cells.length - ((i:Int)+1).toNat<cells.length - (i:Int).toNat
   omega
 ·intro hge w11 hk11 hkn11
  have hie:i=cells.length:=by omega
  subst hie
  rw[List.take_length]at hA
  refine⟨_,_,_,_,_,_,_,_,_,rfl,hk5.more hk11 (fun x hx=>by simp at hx;subst hx;exact .inr hk1),(g1.kp hk11 (by simp)).weak ?_,(g2.kp hk11 (by simp)).weak ?_,(hA.kp hk11 (by simp)).weak ?_,hnew⟩ <;>
  ·intro b hb
   simp at hb ⊢
   first
    |(rcases hb with hb|hb<;>simp[hb])
    |simp[hb]
theorem ofB_small{ds:List Dim}{ats:List Attr}{c:Cell}(h:cellE ds ats c=0):c.at_.length=ds.length∧c.vals.length=ats.length:=by
 unfold cellE at h
 split at h
 ·cases h
 ·omega
theorem schema_len{ds:List Dim}{ats:List Attr}(h:schemaE ds ats=0):1≤ds.length∧ds.length≤4∧1≤ats.length∧ats.length≤6:=by
 unfold schemaE at h
 split at h
 ·contradiction
 ·rename_i h1
  have h1:=Classical.not_not.1 h1
  unfold dimsE at h1
  split at h1
  ·cases h1
  ·split at h
   ·cases h
   ·omega
def CSorted(l:List Cell):Prop:=l.Pairwise fun x y=>cmpL x.at_ y.at_<0
set_option maxHeartbeats 1000000 in
theorem make_ok{M M1 M2 M3:List Nat}{w:World}{ds:List Dim}{ats:List Attr}{cells:List Cell}{a1 a2 a3:Option Addr}{n1 c1 n2 c2 n3 c3:Nat}(hM:∀b∈M,b<w.heap.size)
 (h1:R (tSl tDim) M1 w ds [.slice a1 n1 c1])(h2:R (tSl tAttr) M2 w ats [.slice a2 n2 c2])(h3:R (tSl tCell) M3 w cells [.slice a3 n3 c3])(hs:schemaE ds ats=0)(hc:cells.length≤4096)(hcl:∀c∈cells,cellE ds ats c=0)(hnd:(cells.map (·.at_)).Nodup):
 Calls Tryz.prog 69 #[.slice a1 n1 c1,.slice a2 n2 c2,.slice a3 n3 c3] w fun e w'=>∃b1 p1 q1 b2 p2 q2 b3 p3 q3 cells',e=.returned (.tuple #[.agg #[.slice b1 p1 q1,.slice b2 p2 q2,.slice b3 p3 q3],.int .i64 0])∧KpL [] w w'∧
  cells'.Perm cells∧CSorted cells'∧R (tSl tDim) M w' ds [.slice b1 p1 q1]∧R (tSl tAttr) M w' ats [.slice b2 p2 q2]∧R (tSl tCell) M w' cells' [.slice b3 p3 q3]:=by
 have hmx:maxSl=140737488355328:=rfl
 have hsl:=schema_len hs
 obtain⟨rfl,_,_⟩:=h3.sl_len
 refine make_vc fun k1 hk1 w1 hw1 hkn1=>⟨(schema_ok (h1.kp0 hw1) (h2.kp0 hw1)).mono ?_⟩
 rw[hs]
 rintro e w2 ⟨rfl,hw2⟩
 have hw02:=hw1.trans hw2
 refine⟨_,rfl,hw2,fun hc=>absurd rfl hc,fun _=>⟨fun hc=>by omega,fun _=>⟨fun vs w'=>∃i:Nat,vs=[.int .i64 (i:Int),.slice none 0 0,.slice none 0 0,.slice none 0 0]∧i≤cells.length∧KpL [] w w'∧k1<w'.heap.size,fun vs _=>match vs with|.int _ i::_=>cells.length - i.toNat|_=>0,
  fun hkn2=>⟨0,rfl,by omega,hw02,block_lt hkn2⟩,?_⟩⟩⟩
 rintro n2' _ _ _ _ _ _ _ _ _ w5 hkn5 ⟨i,hv,hi,hk5,hk1l⟩
 simp only[List.cons.injEq,Value.int.injEq,Value.slice.injEq,true_and,and_true]at hv
 obtain⟨rfl,⟨rfl,rfl,rfl⟩,⟨rfl,rfl,rfl⟩,rfl,rfl,rfl⟩:=hv
 constructor
 ·intro hlt
  have gi:i<cells.length:=by omega
  obtain⟨ad,cs,rfl,hv1,hld1,_,_⟩:=(h3.kp0 hk5).sl_get gi
  obtain⟨a6,p6,q6,a7,p7,q7,rfl,hx1,hx2⟩:=hv1.cell
  refine⟨ad,rfl,by omega,hlt,fun _=>⟨_,_,_,_,_,_,hld1,fun k12 hk12 w6 hk6 _=>⟨(cell_ok ((h1.kp0 hk5).kp0 hk6) ((h2.kp0 hk5).kp0 hk6) (hx1.kp0 hk6) (hx2.kp0 hk6)).mono ?_⟩⟩⟩
  rw[hcl cells[i] (List.getElem_mem gi)]
  rintro e w7 ⟨rfl,hk7⟩
  refine⟨_,rfl,hk7,fun hc=>absurd rfl hc,fun _=>⟨ini_i64.2 (by omega),fun _=>⟨⟨i+1,rfl,by omega,(hk5.trans hk6).trans hk7,by have:=(hk6.trans hk7).size;omega⟩,?_⟩⟩⟩
  show cells.length - ((i:Int)+1).toNat<cells.length - (i:Int).toNat
  omega
 ·intro hge _
  have hMk:∀b∈k1::M,b<w5.heap.size:=by
   intro b hb
   rcases List.mem_cons.1 hb with rfl|hb
   ·exact hk1l
   ·exact Nat.lt_of_lt_of_le (hM b hb) hk5.size
  refine⟨(fresh_ok (M:=k1::M) hMk (h1.kp0 hk5) (h2.kp0 hk5) (h3.kp0 hk5) (by omega) (by omega) hc (fun c hc=>by have:=ofB_small (hcl c hc);omega)).mono ?_⟩
  rintro e w9 ⟨b1,p1,q1,b2,p2,q2,b3,p3,q3,rfl,hk9,r1,r2,hA,hnew⟩
  refine⟨_,_,_,_,_,_,_,_,_,rfl,hk9,fun k19 hk19 w10 hk10 hkn10=>⟨(sortBy_ok (hA.kp0 hk10) (by rw[hA.len];omega)).mono ?_⟩⟩
  rintro e w11 ⟨rfl,hk11,cells',hp,hso,hR⟩
  have hpl:=hp.length_eq
  have hk1b:k1∉blkL b3:=fun hm=>(hA.blk_lt _ hm).2 (by simp)
  have hk0w11:KpL [] w w11:=((hk5.trans hk9).trans hk10).more hk11 fun x hx=>.inr (by have:=hnew x hx;have:=hk5.size;omega)
  have r1':R (tSl tDim) (k1::M) w11 ds [.slice b1 p1 q1]:=((r1.kp0 hk10).kp hk11 (by intro x hx;simp[hx])).weak (by intro x hx;exact List.mem_append_right _ hx)
  have r2':R (tSl tAttr) (k1::M) w11 ats [.slice b2 p2 q2]:=((r2.kp0 hk10).kp hk11 (by intro x hx;simp[hx])).weak (by intro x hx;exact List.mem_append_right _ hx)
  have hsorted:CSorted cells':=by
   have hnd':(cells'.map (·.at_)).Nodup:=(hp.map _).nodup_iff.2 hnd
   have hpn:cells'.Pairwise (fun x y=>x.at_≠y.at_):=List.pairwise_map.1 hnd'
   refine(hso.and hpn).imp fun {x y} h=>?_
   have:=h.1
   have h2:cmpL x.at_ y.at_≠0:=fun hz=>h.2 (cmpL_zero.1 hz)
   omega
  have hlen3:p3=cells'.length:=hR.sl_len.1
  subst hlen3
  have hlc:cells'.length≤4096:=by omega
  refine⟨rfl,_,hk11,⟨⟨fun hm=>?_⟩,⟨hk1b⟩⟩,fun vs w'=>∃i:Nat,vs=[.int .i64 (i:Int),.slice none 0 0,.slice none 0 0,.slice none 0 0]∧1≤i∧(i≤cells'.length∨i=1)∧KpL [] w11 w'∧k1<w'.heap.size,fun vs _=>match vs with|.int _ i::_=>cells'.length+1 - i.toNat|_=>0,
   fun hkn=>⟨1,rfl,by omega,.inr rfl,KpL.refl _ _,block_lt hkn.2⟩,?_⟩
  ·have:=(hA.blk_lt _ hm).1;omega
  rintro n4 _ _ _ _ _ _ _ _ _ w12 hkn12 ⟨j,hv,hj1,hj2,hk12,hk1l'⟩
  simp only[List.cons.injEq,Value.int.injEq,Value.slice.injEq,true_and,and_true]at hv
  obtain⟨rfl,⟨rfl,rfl,rfl⟩,⟨rfl,rfl,rfl⟩,rfl,rfl,rfl⟩:=hv
  constructor
  ·intro hlt
   have gj:j<cells'.length:=by omega
   have gj':j - 1<cells'.length:=by omega
   obtain⟨ad,cs,had,hv1,hld1,_,_,hpt1⟩:=(hR.kp0 hk12).sl_get2 gj'
   subst had
   obtain⟨a6,p6,q6,a7,p7,q7,rfl,hx1,hx2⟩:=hv1.cell
   obtain⟨ad2,cs2,had2,hv2,hld2,_,_,hpt2⟩:=(hR.kp0 hk12).sl_get2 gj
   simp only[Option.some.injEq]at had2
   subst had2
   obtain⟨a8,p8,q8,a9,p9,q9,rfl,hy1,hy2⟩:=hv2.cell
   refine⟨ini_i64.2 (by omega),ad,rfl,by omega,by omega,a6,p6,q6,?_,ad,rfl,by omega,by omega,a8,p8,q8,hpt2 0 [_] rfl,fun w13 hk13 _=>⟨(compareS_ok (hx1.kp0 hk13) (hy1.kp0 hk13)).mono ?_⟩⟩
   ·rw[show((j:Int) - 1).toNat=j - 1 from by omega];exact hpt1 0 [_] rfl
   rintro e w14 ⟨rfl,hk14⟩
   have hneg:cmpL cells'[j - 1].at_ cells'[j].at_<0:=List.pairwise_iff_getElem.1 hsorted (j - 1) j gj' gj (by omega)
   refine⟨_,rfl,hk14,fun hz=>by omega,fun _=>⟨ini_i64.2 (by omega),fun _=>⟨⟨j+1,rfl,by omega,.inl (by omega),(hk12.trans hk13).trans hk14,by have:=(hk13.trans hk14).size;omega⟩,?_⟩⟩⟩
   show cells'.length+1 - ((j:Int)+1).toNat<cells'.length+1 - (j:Int).toNat
   omega
  ·intro hge' w16 hk16 _
   have hk1116:KpL [k1] w11 w16:=(hk12.mono (by simp)).trans hk16
   exact⟨_,_,_,_,_,_,_,_,_,cells',rfl,hk0w11.more hk1116 (fun x hx=>by simp at hx;subst hx;exact .inr hk1),hp,hsorted,(r1'.kp hk1116 (by simp)).weak (by intro x hx;simp[hx]),(r2'.kp hk1116 (by simp)).weak (by intro x hx;simp[hx]),
    (hR.kp hk1116 (by simp)).weak (by intro x hx;simp[hx])⟩
end Go.Vc
namespace Go.Vc
open Go Go.Proofs
open Go.Value Go.Ending Go.IntKind
set_option maxRecDepth 100000
theorem cmpOr_vc{aa:Option Addr}{an ac:Nat}{w:World}{R:Ending→World→Prop}
 (h :
 ∃(P1:List Value→World→Prop) (P2:List Value→World→Nat),P1 [int i64 0] w∧
 ∀n1 w1,P1 [int i64 n1] w1→
 (n1<(↑an:Int)→
 ∃d1,aa=some d1∧
 0≤n1∧
 n1<(↑an:Int)∧
 ∃n2,LdA w1 (d1.add (n1.toNat*1)) [int i64 n2]∧
 (n2≠0→
 R (returned (int i64 n2)) w1)∧
 (¬n2≠0→
 InI i64 (n1+1)∧
 P1 [int i64 (n1+1)] w1∧
 P2 [int i64 (n1+1)] w1<P2 [int i64 n1] w1))∧
 (¬n1<(↑an:Int)→
 R (returned (int i64 0)) w1)):Calls Tryz.prog 120 #[slice aa an ac] w R :=
 fnc0 (an:={ loops:=[⟨3,[8],[2,5,9,10,11,12,13,14,15,16],[]⟩] }) (args:=[.a (.c (.v (.slice aa an ac)))]) Tryz_ok Tryz.func120 (by kernel_rfl) rfl rfl h
theorem cmpPl_vc{xa xp xq xr xs:Int}{ya yp yq yr ys:Int}{w:World}{R:Ending→World→Prop}
 (h :
 ∀k1,w.heap.size≤k1→
 ∀k2,w.heap.size≤k2→
 ∃a1 k3 k4,Pv Tryz.prog (Instr.sliceAt 141 (pointer (some (Addr.mk k1 (0+1) none))) none none none) (slice a1 k3 k4)∧
 ∃a2 k5 k6,Pv Tryz.prog (Instr.sliceAt 141 (pointer (some (Addr.mk k2 (0+1) none))) none none none) (slice a2 k5 k6)∧
 ∀w1,KpL [] w w1→
 Hb w1 k2 #[int i64 ya,int i64 yp,int i64 yq,int i64 yr,int i64 ys] 143∧
 Hb w1 k1 #[int i64 xa,int i64 xp,int i64 xq,int i64 xr,int i64 xs] 143→
 CallW Tryz.prog 121 #[int i64 xa,int i64 ya] w1 fun e1 w2 =>
 ∃n1,e1=returned (int i64 n1)∧
 KpL [] w1 w2∧
 (Hb w2 k2 #[int i64 ya,int i64 yp,int i64 yq,int i64 yr,int i64 ys] 143∧
 Hb w2 k1 #[int i64 xa,int i64 xp,int i64 xq,int i64 xr,int i64 xs] 143→
 CallW Tryz.prog 122 #[slice a1 k3 k4,slice a2 k5 k6] w2 fun e2 w3 =>
 ∃n2,e2=returned (int i64 n2)∧
 KpL [] w2 w3∧
 ∀k7,w3.heap.size≤k7→
 ∀w4,KpL [] w3 w4→
 Hb w4 k7 #[int i64 n1,int i64 n2] 3∧
 Hb w4 k2 #[int i64 ya,int i64 yp,int i64 yq,int i64 yr,int i64 ys] 143∧
 Hb w4 k1 #[int i64 xa,int i64 xp,int i64 xq,int i64 xr,int i64 xs] 143→
 CallW Tryz.prog 120 #[slice (some (Addr.mk k7 0 none)) 2 2] w4 fun e3 w5 =>
 ∃n3,e3=returned (int i64 n3)∧
 KpL [] w4 w5∧
 (Hb w5 k7 #[int i64 n1,int i64 n2] 3∧
 Hb w5 k2 #[int i64 ya,int i64 yp,int i64 yq,int i64 yr,int i64 ys] 143∧
 Hb w5 k1 #[int i64 xa,int i64 xp,int i64 xq,int i64 xr,int i64 xs] 143→
 R (returned (int i64 n3)) w5))):Calls Tryz.prog 119 #[agg #[int i64 xa,int i64 xp,int i64 xq,int i64 xr,int i64 xs],agg #[int i64 ya,int i64 yp,int i64 yq,int i64 yr,int i64 ys]] w R :=
 fnc0 (an:={ all:=true }) (args:=[.a (.agg [.v (.int .i64 xa),.v (.int .i64 xp),.v (.int .i64 xq),.v (.int .i64 xr),.v (.int .i64 xs)]),.a (.agg [.v (.int .i64 ya),.v (.int .i64 yp),.v (.int .i64 yq),.v (.int .i64 yr),.v (.int .i64 ys)])]) Tryz_ok Tryz.func119 (by kernel_rfl) rfl rfl h
theorem key_vc{x:Int}{aa:Option Addr}{an ac:Nat}{w:World}{R:Ending→World→Prop}
 (h :
 Ev Tryz.prog (Instr.alloc 143 true (tuple #[])) w fun y1 w1 =>
 ∃d1,y1=pointer (some d1)∧
 ∃l1,KpL l1 w w1∧
 Ev Tryz.prog (Instr.alloc 143 true (tuple #[])) w1 fun y2 w2 =>
 ∃d2,y2=pointer (some d2)∧
 ∃l2,KpL l2 w1 w2∧
 (∃l3,LdA w2 d2 l3∧
 l3.length=5)∧
 NotFrozen w2 d2 5∧
 ∀w3,w3=stA w2 d2 [int i64 x,int i64 0,int i64 0,int i64 0,int i64 0] 0→
 ∃a1 k1 k2,Pv Tryz.prog (Instr.sliceAt 141 (pointer (some (d2.add 1))) none none none) (slice a1 k1 k2)∧
 Ev Tryz.prog (Builtin.copy_ #[78,78] 3 #[slice a1 k1 k2,slice aa an ac]) w3 fun y3 w4 =>
 ∃n1,y3=int i64 n1∧
 ∃l4,KpL l4 w3 w4∧
 ∃n2 n3 n4 n5 n6,LdA w4 d2 [int i64 n2,int i64 n3,int i64 n4,int i64 n5,int i64 n6]∧
 (∃l5,LdA w4 d1 l5∧
 l5.length=5)∧
 NotFrozen w4 d1 5∧
 ∀w5,w5=stA w4 d1 [int i64 n2,int i64 n3,int i64 n4,int i64 n5,int i64 n6] 0→
 ∃n7 n8 n9 n10 n11,LdA w5 d1 [int i64 n7,int i64 n8,int i64 n9,int i64 n10,int i64 n11]∧
 R (returned (agg #[int i64 n7,int i64 n8,int i64 n9,int i64 n10,int i64 n11])) w5):Calls Tryz.prog 78 #[int i64 x,slice aa an ac] w R :=
 fnc0 (an:={ lim:=4 }) (args:=[.a (.c (.v (.int .i64 x))),.a (.c (.v (.slice aa an ac)))]) Tryz_ok Tryz.func78 (by kernel_rfl) rfl rfl h
end Go.Vc
namespace Go.Vc
open Go Go.Proofs Go.Shelf
def plRen:Ren where
 f:=fun x=>match x with
  |6=>118|15=>159|14=>158|28=>195|29=>196|20=>187|21=>188|22=>189|23=>190|24=>191|25=>192|26=>193|27=>194|46=>205|47=>206|48=>207|49=>208|50=>209|57=>215
  |n=>n
 t:=fun x=>match x with
  |22=>205|24=>143|25=>210|3=>3|39=>196|0=>0|53=>265|55=>119|4=>4|46=>258|45=>257|50=>262|5=>5|9=>9|66=>271|70=>274|76=>280|77=>281
  |n=>n
 g:=fun n=>n
theorem bears_of{P:Program}{f:FuncId}{fn B:Func}(h:P.funcs[f]?=some fn)(hn:(fn.name == "runtime.NumGoroutine")=false)(he:fn={ B with name:=fn.name }):Bears P f B:=⟨fn.name,hn,h.trans (congrArg some he)⟩
theorem plLaid:SlLaysF0.n6 Tryz.prog plRen where
 mixed:=by kernel_rfl
 f6:=bears_of Tryz.func118 (by decide) (by kernel_rfl)
 f14:=bears_of Tryz.func158 (by decide) (by kernel_rfl)
 f15:=Tryz.func159.trans (by kernel_rfl)
 f20:=bears_of Tryz.func187 (by decide) (by kernel_rfl)
 f21:=bears_of Tryz.func188 (by decide) (by kernel_rfl)
 f22:=bears_of Tryz.func189 (by decide) (by kernel_rfl)
 f23:=bears_of Tryz.func190 (by decide) (by kernel_rfl)
 f24:=bears_of Tryz.func191 (by decide) (by kernel_rfl)
 f25:=bears_of Tryz.func192 (by decide) (by kernel_rfl)
 f26:=bears_of Tryz.func193 (by decide) (by kernel_rfl)
 f27:=bears_of Tryz.func194 (by decide) (by kernel_rfl)
 f28:=Tryz.func195.trans (by kernel_rfl)
 f29:=Tryz.func196.trans (by kernel_rfl)
 f46:=bears_of Tryz.func205 (by decide) (by kernel_rfl)
 f47:=Tryz.func206.trans (by kernel_rfl)
 f48:=Tryz.func207.trans (by kernel_rfl)
 f49:=bears_of Tryz.func208 (by decide) (by kernel_rfl)
 f50:=bears_of Tryz.func209 (by decide) (by kernel_rfl)
 f57:=bears_of Tryz.func215 (by decide) (by kernel_rfl)
 t0:=Tryz.underlying0
 a0:=Tryz.isAgg0
 z0:=Tryz.sizeOf0
 v0:=Tryz.zeroValue0
 t3:=Tryz.underlying3
 a3:=Tryz.isAgg3
 z3:=Tryz.sizeOf3
 v3:=Tryz.zeroValue3
 t4:=Tryz.underlying4
 a4:=Tryz.isAgg4
 z4:=Tryz.sizeOf4
 v4:=Tryz.zeroValue4
 t5:=Tryz.underlying5
 a5:=Tryz.isAgg5
 z5:=Tryz.sizeOf5
 v5:=Tryz.zeroValue5
 t9:=Tryz.underlying9
 a9:=Tryz.isAgg9
 z9:=Tryz.sizeOf9
 v9:=Tryz.zeroValue9
 t22:=Tryz.underlying205
 a22:=Tryz.isAgg205
 z22:=Tryz.sizeOf205
 v22:=Tryz.zeroValue205
 t25:=Tryz.underlying210
 a25:=Tryz.isAgg210
 z25:=Tryz.sizeOf210
 v25:=Tryz.zeroValue210
 t39:=Tryz.underlying196
 a39:=Tryz.isAgg196
 z39:=Tryz.sizeOf196
 v39:=Tryz.zeroValue196
 t45:=Tryz.underlying257
 a45:=Tryz.isAgg257
 z45:=Tryz.sizeOf257
 v45:=Tryz.zeroValue257
 t46:=Tryz.underlying258
 a46:=Tryz.isAgg258
 z46:=Tryz.sizeOf258
 v46:=Tryz.zeroValue258
 t50:=Tryz.underlying262
 a50:=Tryz.isAgg262
 z50:=Tryz.sizeOf262
 v50:=Tryz.zeroValue262
 t53:=Tryz.underlying265
 a53:=Tryz.isAgg265
 z53:=Tryz.sizeOf265
 v53:=Tryz.zeroValue265
 t55:=Tryz.underlying119
 a55:=Tryz.isAgg119
 z55:=Tryz.sizeOf119
 v55:=Tryz.zeroValue119
 t66:=Tryz.underlying271
 a66:=Tryz.isAgg271
 z66:=Tryz.sizeOf271
 v66:=Tryz.zeroValue271
 t70:=Tryz.underlying274
 a70:=Tryz.isAgg274
 z70:=Tryz.sizeOf274
 v70:=Tryz.zeroValue274
 t76:=Tryz.underlying280
 a76:=Tryz.isAgg280
 z76:=Tryz.sizeOf280
 v76:=Tryz.zeroValue280
 t77:=Tryz.underlying281
 a77:=Tryz.isAgg281
 z77:=Tryz.sizeOf281
 v77:=Tryz.zeroValue281
def Pl.ok(p:Pl):Prop:=InI .i64 p.a∧InI .i64 p.p0∧InI .i64 p.p1∧InI .i64 p.p2∧InI .i64 p.p3
def Pl.co(p:Pl):List Int:=[p.p0,p.p1,p.p2,p.p3]
def tPl:Ty Pl:=tPure 5 Pl.cells Pl.ok (fun _ _=>rfl) (by
 intro x v hv
 simp only[Pl.cells,List.mem_cons,List.not_mem_nil,or_false]at hv
 rcases hv with rfl|rfl|rfl|rfl|rfl<;>rfl)
theorem R.pl{M:List Nat}{w:World}{v:Pl}{cs:List Value}(h:R tPl M w v cs):cs=v.cells∧v.ok:=h
def cmpPl(p q:Pl):Int:=cmpL (p.a::p.co) (q.a::q.co)
theorem cmpPl_zero{p q:Pl}:cmpPl p q=0↔p=q:=by
 unfold cmpPl
 rw[cmpL_zero]
 obtain⟨a,b,c,d,e⟩:=p
 obtain⟨a',b',c',d',e'⟩:=q
 simp[Pl.co]
theorem R.co{w:World}{b:Nat}{p:Pl}{T:TypeId}(hb:w.heap[b]?=some (.cells p.cells.toArray T (0,0)))(hp:p.ok):R (tSl (tI .i64)) [] w p.co [.slice (some ⟨b,1,none⟩) 4 4]:=by
 refine⟨_,_,rfl,Nat.le_refl _,by show(4:Nat)≤140737488355328;omega,fun _=>⟨b,1,_,T,_,rfl,⟨block_lt hb,by simp⟩,hb,fun i x hx=>⟨[.int .i64 x],⟨rfl,?_⟩,fun j v hv=>?_⟩⟩⟩
 ·have:=List.mem_of_getElem? hx
  simp only[Pl.co,List.mem_cons,List.not_mem_nil,or_false]at this
  rcases this with rfl|rfl|rfl|rfl
  ·exact hp.2.1
  ·exact hp.2.2.1
  ·exact hp.2.2.2.1
  ·exact hp.2.2.2.2
 ·cases j with
  |succ j=>simp at hv
  |zero =>
   simp at hv
   subst hv
   have hi:i<4:=(List.getElem?_eq_some_iff.1 hx).1
   show p.cells.toArray.toList[1+i*1+0]?=_
   rw[show 1+i*1+0=i+1 from by omega]
   match i,hi with
   |0,_=>simp[Pl.co]at hx;subst hx;rfl
   |1,_=>simp[Pl.co]at hx;subst hx;rfl
   |2,_=>simp[Pl.co]at hx;subst hx;rfl
   |3,_=>simp[Pl.co]at hx;subst hx;rfl
theorem sliceArr4{ad:Addr}:Pv Tryz.prog (Instr.sliceAt 141 (.pointer (some ad)) none none none) (.slice (some (ad.add (0*1))) 4 4):=by
 have:=pv_sliceArr (P:=Tryz.prog) (at_:=141) u141' (sz:=1) s3 (ad:=ad) (l:=0) (h:=4) (lo:=none) (hi:=none) (.inr ⟨rfl,rfl⟩) (.inr ⟨rfl,rfl⟩) (by omega) (by omega)
 simpa using this
theorem cmpOr_ok{M:List Nat}{w:World}{x y:Int}{a:Option Addr}{n c:Nat}(h:R (tSl (tI .i64)) M w [x,y] [.slice a n c]):Calls Tryz.prog 120 #[.slice a n c] w (PureR (.int .i64 (if x≠0 then x else y)) w):=by
 obtain⟨hn,_,_⟩:=h.sl_len
 have hn':n=2:=hn
 subst hn'
 refine cmpOr_vc ⟨fun vs w'=>∃i:Nat,vs=[.int .i64 (i:Int)]∧i≤2∧KpL [] w w'∧(1≤i→x=0)∧(2≤i→y=0),fun vs _=>match vs with|[.int _ i]=>2 - i.toNat|_=>0,⟨0,rfl,by omega,KpL.refl _ _,by omega,by omega⟩,?_⟩
 rintro n1 w1 ⟨i,hv,hi,hk,h1,h2⟩
 simp only[List.cons.injEq,Value.int.injEq,true_and,and_true]at hv
 subst hv
 constructor
 ·intro hlt
  have g:i<[x,y].length:=by show i<2;omega
  obtain⟨ad,cs,rfl,hv1,hld1,_,_⟩:=(h.kp0 hk).sl_get g
  obtain⟨rfl,hok1⟩:=hv1.intD
  refine⟨ad,rfl,by omega,by omega,_,hld1,fun hne=>?_,fun hz=>?_⟩
  ·match i,g,h1,h2,hne with
   |0,_,_,_,hne=>exact⟨by rw[if_pos (show x≠0 from hne)];rfl,hk⟩
   |1,_,h1,_,hne=>exact⟨by rw[if_neg (by simp[h1 (by omega)])];rfl,hk⟩
  ·have hz:=Classical.not_not.1 hz
   refine⟨ini_i64.2 (by omega),⟨i+1,rfl,by omega,hk,fun _=>?_,fun _=>?_⟩,?_⟩
   ·match i,g,h1,hz with
    |0,_,_,hz=>exact hz
    |1,_,h1,_=>exact h1 (by omega)
   ·match i,g,hz with
    |0,_,_=>omega
    |1,_,hz=>exact hz
   ·show 2 - ((i:Int)+1).toNat<2 - (i:Int).toNat
    omega
 ·intro hge
  have:i=2:=by omega
  subst this
  exact⟨by rw[if_neg (by simp[h1 (by omega)]),h2 (by omega)],hk⟩
theorem cmpPl_ok(p q:Pl)(hp:p.ok)(hq:q.ok)(w:World):Calls Tryz.prog 119 #[.agg p.cells.toArray,.agg q.cells.toArray] w (PureR (.int .i64 (cmpPl p q)) w):=by
 refine cmpPl_vc fun k1 hk1 k2 hk2=>⟨_,_,_,sliceArr4,_,_,_,sliceArr4,fun w1 hw1 hkn=>⟨(compareI_ok p.a q.a w1).mono ?_⟩⟩
 rintro e w2 ⟨rfl,hw2⟩
 refine⟨_,rfl,hw2,fun hkn2=>⟨(compare_ok (R.co (p:=p) hkn2.2 hp) (R.co (p:=q) hkn2.1 hq)).mono ?_⟩⟩
 rintro e w3 ⟨rfl,hw3⟩
 refine⟨_,rfl,hw3,fun k7 hk7 w4 hw4 hkn4=>?_⟩
 have hrng:∀x:Int,(x = -1∨x=0∨x=1)→InI .i64 x:=fun x hx=>ini_i64.2 (by omega)
 have hR:R (tSl (tI .i64)) [] w4 [cmpI p.a q.a,cmpL p.co q.co] [.slice (some ⟨k7,0,none⟩) 2 2]:=by
  have hb:w4.heap[k7]?=some (.cells ([cmpI p.a q.a,cmpL p.co q.co].map (Value.int .i64)++[]).toArray 3 (0,0)):=hkn4.1
  exact R.ofBlk (c:=2) hb (by simp) (by
   intro x hx
   simp only[List.mem_cons,List.not_mem_nil,or_false]at hx
   rcases hx with rfl|rfl
   ·exact hrng _ (cmpI_rng _ _)
   ·exact hrng _ (cmpL_rng _ _)) (Nat.le_refl 2) (by show(2:Nat)≤140737488355328;omega)
 refine⟨(cmpOr_ok hR).mono ?_⟩
 rintro e w5 ⟨rfl,hw5⟩
 exact⟨_,rfl,hw5,fun _=>⟨rfl,(((hw1.trans hw2).trans hw3).trans hw4).trans hw5⟩⟩
def plOf(a:Int)(at_:List Int):Pl:=⟨a,at_.getD 0 0,at_.getD 1 0,at_.getD 2 0,at_.getD 3 0⟩
theorem key_ok{M:List Nat}{w:World}{x:Int}{xs:List Int}{a:Option Addr}{n c:Nat}(h:R (tSl (tI .i64)) M w xs [.slice a n c])(hn:xs.length≤4):
 Calls Tryz.prog 78 #[.int .i64 x,.slice a n c] w (PureR (.agg (plOf x xs).cells.toArray) w):=by
 obtain⟨rfl,hn2,hn3⟩:=h.sl_len
 have hz:∃zv,(∀w,(zeroValue 143).run Tryz.prog w=.ok zv w)∧zv.cells=[Value.int .i64 0,.int .i64 0,.int .i64 0,.int .i64 0,.int .i64 0].toArray:=⟨_,fun w=>zero_of (z:=.agg #[.int .i64 0,.int .i64 0,.int .i64 0,.int .i64 0,.int .i64 0]) (by kernel_rfl) w,rfl⟩
 refine key_vc (ev_alloc hz fun w1 hb1 hw1=>⟨_,rfl,_,hw1,ev_alloc hz fun w2 hb2 hw2=>⟨_,rfl,_,hw2,⟨[.int .i64 0,.int .i64 0,.int .i64 0,.int .i64 0,.int .i64 0],ldA_blk hb2 0 _ rfl,rfl⟩,notFrozen hb2,?_⟩⟩)
 rintro w3 rfl
 have hb3:=stA_ld (off:=0) (l:=[.int .i64 x,.int .i64 0,.int .i64 0,.int .i64 0,.int .i64 0]) hb2 (by simp)
 have hk3:KpL [w1.heap.size] w2 (stA w2 ⟨w1.heap.size,0,none⟩ [.int .i64 x,.int .i64 0,.int .i64 0,.int .i64 0,.int .i64 0] 0):=stA_kp w2 ⟨w1.heap.size,0,none⟩ _
 generalize hS:stA w2 ⟨w1.heap.size,0,none⟩ [.int .i64 x,.int .i64 0,.int .i64 0,.int .i64 0,.int .i64 0] 0=w3 at hb3 hk3 ⊢
 have hs1:=hw1.size
 have hl1:=block_lt hb1
 have hl2:=block_lt hb2
 have hw03:KpL [] w w3:=(hw1.trans hw2).more hk3 (by intro y hy;simp at hy;subst hy;exact .inr hs1)
 have hR3:R (tSl (tI .i64)) [w1.heap.size] w3 xs [.slice a xs.length c]:=(h.weak (M':=[]) (by simp)).step hw03 (by simp) (by intro y hy;simp at hy;subst hy;exact .inr hs1)
 refine⟨_,_,_,sliceArr4,?_⟩
 have elI:ElT Tryz.prog 78 3 1 8:=apI.el
 refine ev_copy (M:=[w1.heap.size]) elI (off:=0+1+0*1) (arr:=[.int .i64 x,.int .i64 0,.int .i64 0,.int .i64 0,.int .i64 0]) hb3 (by simp[tI]) hR3 fun w4 ly hfl hb4 hk4=>⟨_,rfl,_,hk4,?_⟩
 have hly:=flat_int hfl
 rw[Nat.min_eq_left hn,List.take_length]at hly
 subst hly
 have harr:([Value.int .i64 x,.int .i64 0,.int .i64 0,.int .i64 0,.int .i64 0].take (0+1+0*1)++(xs.map (Value.int .i64)++[Value.int .i64 x,.int .i64 0,.int .i64 0,.int .i64 0,.int .i64 0].drop (0+1+0*1+(xs.map (Value.int .i64)).length)))=(plOf x xs).cells:=by
  match xs,hn with
  |[],_=>rfl
  |[_],_=>rfl
  |[_,_],_=>rfl
  |[_,_,_],_=>rfl
  |[_,_,_,_],_=>rfl
 rw[harr]at hb4
 have hne:w.heap.size≠w1.heap.size:=by omega
 have hb14:=(hk4.blk _ (Nat.lt_of_lt_of_le hl1 (Nat.le_trans hw2.size hk3.size)) (by simpa using hne)).trans ((hk3.blk _ (Nat.lt_of_lt_of_le hl1 hw2.size) (by simpa using hne)).trans ((hw2.blk _ hl1 (by simp)).trans hb1))
 refine⟨(plOf x xs).a,(plOf x xs).p0,(plOf x xs).p1,(plOf x xs).p2,(plOf x xs).p3,ldA_blk hb4 0 _ rfl,⟨[.int .i64 0,.int .i64 0,.int .i64 0,.int .i64 0,.int .i64 0],ldA_blk hb14 0 _ rfl,rfl⟩,notFrozen hb14,?_⟩
 rintro w5 rfl
 have hb5:=stA_ld (off:=0) (l:=(plOf x xs).cells) hb14 (by simp[Pl.cells])
 refine⟨(plOf x xs).a,(plOf x xs).p0,(plOf x xs).p1,(plOf x xs).p2,(plOf x xs).p3,ldA_blk hb5 0 _ (by rfl),rfl,?_⟩
 refine(hw03.more hk4 (by intro y hy;simp at hy;subst hy;exact .inr hs1)).more (stA_kp _ ⟨w.heap.size,0,none⟩ _) (by intro y hy;simp at hy;subst hy;exact .inr (Nat.le_refl _))
end Go.Vc
namespace Go.Vc
open Go Go.Proofs Go.Shelf Go.RowKit
open Go.Sort (HoldsK flatK size_flatK get_flatK)
theorem kp_grow{w w':World}(k:KpL [] w w'):∃q os',w'=Go.Sort.grow (w.drewN q) os':=by
 refine⟨w'.drawn - w.drawn,w'.heap.extract w.heap.size w'.heap.size,?_⟩
 have hh:w'.heap=w.heap++w'.heap.extract w.heap.size w'.heap.size:=by
  apply Array.ext_getElem?
  intro i
  by_cases hi:i<w.heap.size
  ·rw[Array.getElem?_append_left hi]
   exact k.blk i hi (by simp)
  ·rw[Array.getElem?_append_right (by omega),Array.getElem?_extract]
   have hs:=k.size
   by_cases hi2:i<w'.heap.size
   ·rw[if_pos (by omega)]
    congr 1;omega
   ·rw[if_neg (by omega),Array.getElem?_eq_none (by omega)]
 have hd:=k.drawn
 obtain⟨h1,t1,d1,o1,u1⟩:=w
 obtain⟨h2,t2,d2,o2,u2⟩:=w'
 have e1:=k.os
 have e2:=k.tape
 have e3:=k.output
 simp only at e1 e2 e3 hh hd
 subst e1 e2 e3
 show World.mk _ _ _ _ _=World.mk _ _ _ _ _
 congr 1
 exact(Nat.add_sub_cancel' hd).symm
abbrev PlO:={ p:Pl // p.ok }
instance plInh:Inhabited PlO:=⟨⟨⟨0,0,0,0,0⟩,by refine⟨?_,?_,?_,?_,?_⟩<;>exact ini_i64.2 (by simp)⟩⟩
def PlO.cells(p:PlO):List Value:=p.1.cells
def PlO.cmp(p q:PlO):Int:=cmpPl p.1 q.1
theorem plSwo:Go.Sort.SWO (ltOf PlO.cmp) where
 irrefl x:=by
  unfold ltOf PlO.cmp
  rw[cmpPl_zero.2 rfl];rfl
 trans x y z h1 h2:=by
  unfold ltOf PlO.cmp cmpPl at *
  simp only[decide_eq_true_eq]at *
  have:=cmpL_trans (Int.le_of_lt h1) (Int.le_of_lt h2)
  rcases Int.lt_or_eq_of_le this with h|h
  ·exact h
  ·exfalso
   have e:=cmpL_zero.1 h
   rw[e]at h1
   rw[cmpL_swap]at h1
   omega
 ntrans x y z h1 h2:=by
  unfold ltOf PlO.cmp cmpPl at *
  simp only[decide_eq_false_iff_not]at *
  intro h
  rw[cmpL_swap]at h1 h2 h
  have:=cmpL_trans (x:=z.1.a::z.1.co) (y:=y.1.a::y.1.co) (z:=x.1.a::x.1.co) (by omega) (by omega)
  omega
theorem pl_list{ps:List Pl}(h:∀p∈ps,p.ok):∃ds:List PlO,ds.map (·.1)=ps:=⟨ps.pmap (fun p h=>⟨p,h⟩) h,by simp[List.map_pmap]⟩
theorem Acc.pls{M:List Nat}{w:World}{ps:List Pl}{ad:Addr}{n c:Nat}(h:Acc tPl M w ps (some ad) n c):
 ∃b arr T,ad=⟨b,0,none⟩∧b∉M∧w.heap[b]?=some (.cells arr T (0,0))∧arr.size=c*5∧(∀p∈ps,p.ok)∧∀(i:Nat) (p:Pl),ps[i]?=some p→∀(j:Nat) (v:Value),p.cells[j]?=some v→arr[i*5+j]?=some v:=by
 obtain⟨b,arr,T,rfl,hbM,hb,hsz,hel⟩:=h.at_ ad rfl
 refine⟨b,arr,T,rfl,hbM,hb,hsz,fun p hp=>?_,fun i p hp j v hv=>?_⟩
 ·obtain⟨i,hi,rfl⟩:=List.getElem_of_mem hp
  obtain⟨cs,⟨_,h2⟩,_⟩:=hel i ps[i] (List.getElem?_eq_getElem hi)
  exact h2
 ·obtain⟨cs,⟨rfl,_⟩,h3⟩:=hel i p hp
  have:=h3 j v hv
  have hz:tPl.sz=5:=rfl
  rw[hz,Nat.zero_add]at this
  simpa using this
set_option maxHeartbeats 1000000 in
theorem sortPl_ok{M:List Nat}{w:World}{ps:List Pl}{a:Option Addr}{n c:Nat}(h:Acc tPl M w ps a n c)(hn:n≤1000000):
 Calls Tryz.prog 118 #[.slice a n c,.func (.func 119) #[] #[]] w fun e w'=>e=.returned (.tuple #[])∧KpL (blkL a) w w'∧∃ps':List Pl,ps'.Perm ps∧ps'.Pairwise (fun x y=>cmpPl x y≤0)∧R (tSl tPl) M w' ps' [.slice a n c]:=by
 have hlen:=h.len
 have hcap:=h.cap
 have hmx:maxSl=140737488355328:=rfl
 cases ha:a with
 |none =>
  subst ha
  have h0:=h.nil rfl
  have hps:=len_zero (l:=ps) (by omega)
  subst hps
  have:n=0:=by omega
  subst this h0
  have:=AnyF.slices_SortFunc_none plLaid none 0 (.func (.func 119) #[] #[]) w
  change Calls Tryz.prog 118 _ _ _ at this
  refine this.mono ?_
  rintro e w' ⟨rfl,rfl⟩
  exact⟨rfl,KpL.refl _ _,[],List.Perm.refl _,List.Pairwise.nil,R.sl_nil _ _ _ _ _⟩
 |some ad =>
  subst ha
  obtain⟨b,arr,T,rfl,hbM,hb,hsz,hok,hat⟩:=h.pls
  obtain⟨ds,rfl⟩:=pl_list hok
  rw[List.length_map]at hlen
  subst hlen
  have hbl:=block_lt hb
  have hH:HoldsK PlO.cells 5 w b 0 ds.toArray:=by
   intro j hj
   rw[size_flatK]at hj
   have hj':j<ds.length*5:=by simpa using hj
   rw[get_flatK _ _ _ _ hj]
   have hi:j / 5<ds.length:=by omega
   have hcell:=hat (j / 5) (ds[j / 5]).1 (by simp[hi]) (j%5) ((ds[j / 5]).1.cells[j%5]'(by show j%5<5;omega)) (by rw[List.getElem?_eq_getElem])
   have hd:ds.toArray[j / 5]! = ds[j / 5]:=by simp[hi]
   have e2:(ds[j / 5].cells)[j%5]! = (ds[j / 5]).1.cells[j%5]'(by show j%5<5;omega):=by
    show((ds[j / 5]).1.cells)[j%5]! = _
    rw[getElem!_pos]
   constructor
   ·rw[hd,e2,cell_of_block hb,Nat.zero_add]
    have ej:j / 5*5+j%5=j:=by omega
    rw[ej]at hcell
    exact hcell
   ·unfold World.frozen?
    simp only[hb]
    simp
  have hcmp:CmpLays Tryz.prog 119 #[] PlO.cells 5 PlO.cmp b 0 ds.toArray.size w:=by
   intro m os dk _ x y
   refine Calls.mono (R:=PureR (.int .i64 (cmpPl x.1 y.1)) (sortWorldK PlO.cells 5 w b 0 m dk os)) ?_ ?_
   ·have:=cmpPl_ok x.1 y.1 x.2 y.2 (sortWorldK PlO.cells 5 w b 0 m dk os)
    rw[Array.append_empty]
    exact this
   ·rintro e w' ⟨rfl,hk⟩
    exact⟨rfl,kp_grow hk⟩
  have eg:∀args w,(callFunc 119 args).run Tryz.prog w=.ok (.enter 119 args) w:=enters_of Tryz.func119 (by decide) rfl
  have hcon:=AnyQ.slices_SortFunc plLaid 5 Tryz.isAgg143 Tryz.sizeOf143 PlO.cells (fun _=>rfl) (fun x v hv=>by
   simp only[PlO.cells,Pl.cells,List.mem_cons,List.not_mem_nil,or_false]at hv
   rcases hv with rfl|rfl|rfl|rfl|rfl<;>rfl) PlO.cmp plSwo 119 #[] b 0 c ds.toArray w eg hcmp hH hbl (by simp;omega)
  change Calls Tryz.prog 118 _ _ _ at hcon
  have hsd:ds.toArray.size=ds.length:=by simp
  rw[hsd]at hcon
  refine hcon.mono ?_
  rintro e w' ⟨rfl,d',m,os,hp,hs,rfl⟩
  obtain⟨hps,_,hpp⟩:=hp
  have hds:d'.size=ds.length:=by rw[hps];simp
  have hperm:d'.toList.Perm ds:=by
   have e1:(d'.extract 0 ds.length).toList=d'.toList:=by rw[←hds];simp
   have e2:(ds.toArray.extract 0 ds.length).toList=ds:=by simp
   rw[e1,e2]at hpp
   exact hpp
  have hbw:(sortWorldK PlO.cells 5 w b 0 m d' os).heap[b]?=some (.cells (Go.Sort.putCells id 0 (flatK PlO.cells 5 d') arr) T (0,0)):=by
   show((w.heap.modify b (Go.Sort.onCells (Go.Sort.putCells id 0 (flatK PlO.cells 5 d'))))++os)[b]?=_
   rw[Array.getElem?_append_left (by simpa using hbl),Array.getElem?_modify,if_pos rfl,hb]
   rfl
  have hkp:KpL [b] w (sortWorldK PlO.cells 5 w b 0 m d' os):=by
   refine⟨rfl,rfl,rfl,Nat.le_add_right _ _,?_,fun x hx hn=>?_⟩
   ·show w.heap.size≤((w.heap.modify b (Go.Sort.onCells (Go.Sort.putCells id 0 (flatK PlO.cells 5 d'))))++os).size
    simp
   ·show((w.heap.modify b (Go.Sort.onCells (Go.Sort.putCells id 0 (flatK PlO.cells 5 d'))))++os)[x]?=_
    simp only[List.mem_singleton]at hn
    rw[Array.getElem?_append_left (by simpa using hx),Array.getElem?_modify,if_neg (Ne.symm hn)]
  refine⟨rfl,hkp,d'.toList.map (·.1),hperm.map _,?_,?_⟩
  ·rw[List.pairwise_map]
   refine List.pairwise_iff_getElem.2 fun i j hi hj hij=>?_
   have hi':i<d'.size:=by simpa using hi
   have hj':j<d'.size:=by simpa using hj
   have:=hs i j (Nat.zero_le _) hij (by omega)
   rw[getElem!_pos d' j hj',getElem!_pos d' i hi']at this
   unfold ltOf PlO.cmp cmpPl at this
   simp only[decide_eq_false_iff_not]at this
   rw[cmpL_swap]at this
   simp only[Array.getElem_toList]
   unfold cmpPl
   omega
  ·have hl':(d'.toList.map (·.1)).length=ds.length:=by simp[hds]
   refine⟨_,c,by rw[hl'],by rw[hl'];exact hcap,by rw[hl'];omega,fun _=>⟨b,0,_,T,_,rfl,⟨block_lt hbw,hbM⟩,hbw,fun i p hi=>?_⟩⟩
   simp only[List.getElem?_map,Option.map_eq_some_iff]at hi
   obtain⟨q,hq,rfl⟩:=hi
   refine⟨q.1.cells,⟨rfl,q.2⟩,fun j v hv=>?_⟩
   have hi':i<d'.size:=by have:=(List.getElem?_eq_some_iff.1 hq).1;simpa using this
   have hj:j<5:=(List.getElem?_eq_some_iff.1 hv).1
   have hqi:d'[i]! = q:=by rw[getElem!_pos d' i hi'];have:=(List.getElem?_eq_some_iff.1 hq).2;simpa using this
   have hz:tPl.sz=5:=rfl
   rw[hz]
   show(Go.Sort.putCells id 0 (flatK PlO.cells 5 d') arr).toList[0+i*5+j]?=_
   unfold Go.Sort.putCells
   rw[Array.getElem?_toList,Array.getElem?_mapIdx]
   have hlt:0+i*5+j<arr.size:=by omega
   rw[Array.getElem?_eq_getElem hlt,Option.map_some,if_pos (by rw[size_flatK];omega),Nat.sub_zero,get_flatK _ _ _ _ (by omega)]
   rw[show(0+i*5+j) / 5=i from by omega,show(0+i*5+j)%5=j from by omega,hqi]
   show some (id (q.1.cells)[j]!)=some v
   rw[getElem!_pos q.1.cells j hj]
   simp only[id]
   rw[←hv]
   exact(List.getElem?_eq_getElem (show j<q.1.cells.length from hj)).symm
end Go.Vc
namespace Go.Vc
open Go Go.Proofs
open Go.Value Go.Ending Go.IntKind
set_option maxRecDepth 100000
theorem rTake_vc{r:Nat}{x:Int}{w:World}{R:Ending→World→Prop}
 (h :
 ∃a1 k1 k2,LdA w ((Addr.mk r 0 none).add 0) [slice a1 k1 k2]∧
 ∃n1,Pv Tryz.prog (Builtin.min_ #[(3:Nat),(3:Nat)] (3:Nat) #[int i64 x,int i64 (↑k1:Int)]) (int i64 n1)∧
 ∃a2 k3 k4,LdA w ((Addr.mk r 0 none).add 0) [slice a2 k3 k4]∧
 ∃a3 k5 k6,Pv Tryz.prog (Instr.sliceAt 33 (slice a2 k3 k4) none (some (int i64 n1)) none) (slice a3 k5 k6)∧
 ∃a4 k7 k8,LdA w ((Addr.mk r 0 none).add 0) [slice a4 k7 k8]∧
 ∃a5 k9 k10,Pv Tryz.prog (Instr.sliceAt 33 (slice a4 k7 k8) (some (int i64 n1)) none none) (slice a5 k9 k10)∧
 (∃l1,LdA w ((Addr.mk r 0 none).add 0) l1∧
 l1.length=1)∧
 NotFrozen w ((Addr.mk r 0 none).add 0) 1∧
 ∀w1,w1=stA w ((Addr.mk r 0 none).add 0) [slice a5 k9 k10] 0→
 R (returned (slice a3 k5 k6)) w1):Calls Tryz.prog 161 #[pointer (some (Addr.mk r 0 none)),int i64 x] w R :=
 fnc0 (an:={}) (args:=[.a (.c (.v (.pointer (some ⟨r,0,none⟩)))),.a (.c (.v (.int .i64 x)))]) Tryz_ok Tryz.func161 (by kernel_rfl) rfl rfl h
theorem rByte_vc{r:Nat}{w:World}{R:Ending→World→Prop}
 (h :
 CallW Tryz.prog 161 #[pointer (some (Addr.mk r 0 none)),int i64 1] w fun e1 w1 =>
 ∃a1 k1 k2,e1=returned (slice a1 k1 k2)∧
 ∃l1,KpL l1 w w1∧
 ((0:Int)<(↑k1:Int)→
 ∃d1,a1=some d1∧
 (0:Int)≤(0:Int)∧
 (0:Int)<(↑k1:Int)∧
 ∃n1,LdA w1 (d1.add (Int.toNat 0*1)) [int u8 n1]∧
 R (returned (int u8 n1)) w1)∧
 (¬(0:Int)<(↑k1:Int)→
 R (returned (int u8 0)) w1)):Calls Tryz.prog 128 #[pointer (some (Addr.mk r 0 none))] w R :=
 fnc0 (an:={ muts:=[161] }) (args:=[.a (.c (.v (.pointer (some ⟨r,0,none⟩))))]) Tryz_ok Tryz.func128 (by kernel_rfl) rfl rfl h
theorem rNumber_vc{r:Nat}{w:World}{R:Ending→World→Prop}
 (h :
 ∃(P1:List Value→World→Prop) (P2:List Value→World→Nat),P1 [int u64 0,int i64 0] w∧
 ∀n1 n2 w1,P1 [int u64 n1,int i64 n2] w1→
 (n2<64→
 CallW Tryz.prog 128 #[pointer (some (Addr.mk r 0 none))] w1 fun e1 w2 =>
 ∃n3,e1=returned (int u8 n3)∧
 ∃l1,KpL l1 w1 w2∧
 InI u64 (bitsI BinOp.and u8 n3 127)∧
 0≤n2∧
 (n3<128→
 R (returned (int u64 (bitsI BinOp.or u64 n1 (u64.wrap (bitsI BinOp.and u8 n3 127*2 ^ Min.min n2.toNat u64.bits))))) w2)∧
 (¬n3<128→
 P1 [int u64 (bitsI BinOp.or u64 n1 (u64.wrap (bitsI BinOp.and u8 n3 127*2 ^ Min.min n2.toNat u64.bits))),int i64 (i64.wrap (n2+7))] w2∧
 P2 [int u64 (bitsI BinOp.or u64 n1 (u64.wrap (bitsI BinOp.and u8 n3 127*2 ^ Min.min n2.toNat u64.bits))),int i64 (i64.wrap (n2+7))] w2<P2 [int u64 n1,int i64 n2] w1))∧
 (¬n2<64→
 R (returned (int u64 n1)) w1)):Calls Tryz.prog 131 #[pointer (some (Addr.mk r 0 none))] w R :=
 fnc0 (an:={ loops:=[⟨3,[3,4],[5,6,7,8,9,10,11,12,13,14,15,16,17,18,19,20],[]⟩],muts:=[128],wrap:=true }) (args:=[.a (.c (.v (.pointer (some ⟨r,0,none⟩))))]) Tryz_ok Tryz.func131 (by kernel_rfl) rfl rfl h
theorem rCount_vc{r:Nat}{w:World}{R:Ending→World→Prop}
 (h :
 CallW Tryz.prog 131 #[pointer (some (Addr.mk r 0 none))] w fun e1 w1 =>
 ∃n1,e1=returned (int u64 n1)∧
 ∃l1,KpL l1 w w1∧
 ∃a1 k1 k2,LdA w1 ((Addr.mk r 0 none).add 0) [slice a1 k1 k2]∧
 ∃n2,Pv Tryz.prog (Builtin.min_ #[(119:Nat),(119:Nat)] (119:Nat) #[int u64 n1,int u64 (u64.wrap (↑k1:Int))]) (int u64 n2)∧
 R (returned (int i64 (i64.wrap n2))) w1):Calls Tryz.prog 125 #[pointer (some (Addr.mk r 0 none))] w R :=
 fnc0 (an:={ muts:=[131] }) (args:=[.a (.c (.v (.pointer (some ⟨r,0,none⟩))))]) Tryz_ok Tryz.func125 (by kernel_rfl) rfl rfl h
theorem rSigned_vc{r:Nat}{w:World}{R:Ending→World→Prop}
 (h :
 CallW Tryz.prog 131 #[pointer (some (Addr.mk r 0 none))] w fun e1 w1 =>
 ∃n1,e1=returned (int u64 n1)∧
 ∃l1,KpL l1 w w1∧
 R (returned (int i64 (bitsI BinOp.xor i64 (i64.wrap (n1.fdiv (↑((2:Nat) ^ (1:Nat)):Int))) (i64.wrap ((0:Int) - i64.wrap (bitsI BinOp.and u64 n1 (1:Int))))))) w1):Calls Tryz.prog 127 #[pointer (some (Addr.mk r 0 none))] w R :=
 fnc0 (an:={ muts:=[131],wrap:=true }) (args:=[.a (.c (.v (.pointer (some ⟨r,0,none⟩))))]) Tryz_ok Tryz.func127 (by kernel_rfl) rfl rfl h
theorem rText_vc{r:Nat}{w:World}{R:Ending→World→Prop}
 (h :
 CallW Tryz.prog 125 #[pointer (some (Addr.mk r 0 none))] w fun e1 w1 =>
 ∃n1,e1=returned (int i64 n1)∧
 ∃l1,KpL l1 w w1∧
 CallW Tryz.prog 161 #[pointer (some (Addr.mk r 0 none)),int i64 n1] w1 fun e2 w2 =>
 ∃a1 k1 k2,e2=returned (slice a1 k1 k2)∧
 ∃l2,KpL l2 w1 w2∧
 Ev Tryz.prog (convert 33 9 (slice a1 k1 k2)) w2 fun y1 w3 =>
 ∃s1,y1=string s1∧
 ∃l3,KpL l3 w2 w3∧
 R (returned (string s1)) w3):Calls Tryz.prog 126 #[pointer (some (Addr.mk r 0 none))] w R :=
 fnc0 (an:={ muts:=[125,161] }) (args:=[.a (.c (.v (.pointer (some ⟨r,0,none⟩))))]) Tryz_ok Tryz.func126 (by kernel_rfl) rfl rfl h
theorem rValues_vc{r:Nat}{w:World}{R:Ending→World→Prop}
 (h :
 CallW Tryz.prog 125 #[pointer (some (Addr.mk r 0 none))] w fun e1 w1 =>
 ∃n1,e1=returned (int i64 n1)∧
 ∃l1,KpL l1 w w1∧
 ∃(P1:List Value→World→Prop) (P2:List Value→World→Nat),P1 [slice none 0 0,int i64 0] w1∧
 ∀a1 k1 k2 n2 w2,P1 [slice a1 k1 k2,int i64 n2] w2→
 (n2<n1→
 CallW Tryz.prog 128 #[pointer (some (Addr.mk r 0 none))] w2 fun e2 w3 =>
 ∃n3,e2=returned (int u8 n3)∧
 ∃l2,KpL l2 w2 w3∧
 InI i64 n3∧
 ∀k3,w3.heap.size≤k3→
 (n3=3→
 ∀w4,KpL [] w3 w4→
 Hb w4 k3 #[int i64 n3,int i64 0,int i64 0,string (ByteArray.mk #[])] 161→
 CallW Tryz.prog 126 #[pointer (some (Addr.mk r 0 none))] w4 fun e3 w5 =>
 ∃s1,e3=returned (string s1)∧
 ∃l3,KpL l3 w4 w5∧
 NotIn k3 l3∧
 ∀k4,w5.heap.size≤k4→
 ∀w6,KpL [k3] w5 w6→
 Hb w6 k4 #[int i64 n3,int i64 0,int i64 0,string s1] 161∧
 Hb w6 k3 #[int i64 n3,int i64 0,int i64 0,string s1] 161→
 Ev Tryz.prog (Builtin.append_ #[79,79] 79 #[slice a1 k1 k2,slice (some (Addr.mk k4 0 none)) 1 1]) w6 fun y1 w7 =>
 ∃a2 k5 k6,y1=slice a2 k5 k6∧
 ∃l4,KpL l4 w6 w7∧
 (NotIn k4 l4∧
 NotIn k3 l4)∧
 InI i64 (n2+1)∧
 (Hb w7 k4 #[int i64 n3,int i64 0,int i64 0,string s1] 161∧
 Hb w7 k3 #[int i64 n3,int i64 0,int i64 0,string s1] 161→
 P1 [slice a2 k5 k6,int i64 (n2+1)] w7∧
 P2 [slice a2 k5 k6,int i64 (n2+1)] w7<P2 [slice a1 k1 k2,int i64 n2] w2))∧
 (¬n3=3→
 (n3=2→
 ∀w8,KpL [] w3 w8→
 Hb w8 k3 #[int i64 n3,int i64 0,int i64 0,string (ByteArray.mk #[])] 161→
 CallW Tryz.prog 127 #[pointer (some (Addr.mk r 0 none))] w8 fun e4 w9 =>
 ∃n4,e4=returned (int i64 n4)∧
 ∃l5,KpL l5 w8 w9∧
 NotIn k3 l5∧
 ∀w10,KpL [k3] w9 w10→
 Hb w10 k3 #[int i64 n3,int i64 n4,int i64 0,string (ByteArray.mk #[])] 161→
 CallW Tryz.prog 131 #[pointer (some (Addr.mk r 0 none))] w10 fun e5 w11 =>
 ∃n5,e5=returned (int u64 n5)∧
 ∃l6,KpL l6 w10 w11∧
 NotIn k3 l6∧
 ∀k7,w11.heap.size≤k7→
 ∀w12,KpL [k3] w11 w12→
 Hb w12 k7 #[int i64 n3,int i64 n4,int i64 (i64.wrap n5),string (ByteArray.mk #[])] 161∧
 Hb w12 k3 #[int i64 n3,int i64 n4,int i64 (i64.wrap n5),string (ByteArray.mk #[])] 161→
 Ev Tryz.prog (Builtin.append_ #[79,79] 79 #[slice a1 k1 k2,slice (some (Addr.mk k7 0 none)) 1 1]) w12 fun y2 w13 =>
 ∃a3 k8 k9,y2=slice a3 k8 k9∧
 ∃l7,KpL l7 w12 w13∧
 (NotIn k7 l7∧
 NotIn k3 l7)∧
 InI i64 (n2+1)∧
 (Hb w13 k7 #[int i64 n3,int i64 n4,int i64 (i64.wrap n5),string (ByteArray.mk #[])] 161∧
 Hb w13 k3 #[int i64 n3,int i64 n4,int i64 (i64.wrap n5),string (ByteArray.mk #[])] 161→
 P1 [slice a3 k8 k9,int i64 (n2+1)] w13∧
 P2 [slice a3 k8 k9,int i64 (n2+1)] w13<P2 [slice a1 k1 k2,int i64 n2] w2))∧
 (¬n3=2→
 ∀w14,KpL [] w3 w14→
 Hb w14 k3 #[int i64 n3,int i64 0,int i64 0,string (ByteArray.mk #[])] 161→
 CallW Tryz.prog 128 #[pointer (some (Addr.mk r 0 none))] w14 fun e6 w15 =>
 ∃n6,e6=returned (int u8 n6)∧
 ∃l8,KpL l8 w14 w15∧
 NotIn k3 l8∧
 InI i64 n6∧
 ∀k10,w15.heap.size≤k10→
 ∀w16,KpL [k3] w15 w16→
 Hb w16 k10 #[int i64 n3,int i64 n6,int i64 0,string (ByteArray.mk #[])] 161∧
 Hb w16 k3 #[int i64 n3,int i64 n6,int i64 0,string (ByteArray.mk #[])] 161→
 Ev Tryz.prog (Builtin.append_ #[79,79] 79 #[slice a1 k1 k2,slice (some (Addr.mk k10 0 none)) 1 1]) w16 fun y3 w17 =>
 ∃a4 k11 k12,y3=slice a4 k11 k12∧
 ∃l9,KpL l9 w16 w17∧
 (NotIn k10 l9∧
 NotIn k3 l9)∧
 InI i64 (n2+1)∧
 (Hb w17 k10 #[int i64 n3,int i64 n6,int i64 0,string (ByteArray.mk #[])] 161∧
 Hb w17 k3 #[int i64 n3,int i64 n6,int i64 0,string (ByteArray.mk #[])] 161→
 P1 [slice a4 k11 k12,int i64 (n2+1)] w17∧
 P2 [slice a4 k11 k12,int i64 (n2+1)] w17<P2 [slice a1 k1 k2,int i64 n2] w2))))∧
 (¬n2<n1→
 R (returned (slice a1 k1 k2)) w2)):Calls Tryz.prog 132 #[pointer (some (Addr.mk r 0 none))] w R :=
 fnc0 (an:={ loops:=[⟨3,[3,7],[4,8,9,10,11,12,13,14,15,16,17,18,19,20,21,22,23,24,25,26,27,28,29,30,31,32,33,34,35,36,37],[]⟩],muts:=[125,128,126,127,131],all:=true }) (args:=[.a (.c (.v (.pointer (some ⟨r,0,none⟩))))]) Tryz_ok Tryz.func132 (by kernel_rfl) rfl rfl h
end Go.Vc
namespace Go.Vc
open Go Go.Proofs
def RdAt(N:List Nat)(w:World)(r:Nat)(bs:List Int):Prop:=∃a n c T,w.heap[r]?=some (.cells #[.slice a n c] T (0,0))∧R (tSl (tI .u8)) (r::N) w bs [.slice a n c]
theorem RdAt.lt{N:List Nat}{w:World}{r:Nat}{bs:List Int}(h:RdAt N w r bs):r<w.heap.size:=by obtain⟨_,_,_,_,h,_⟩:=h;exact block_lt h
theorem RdAt.step{N N' F:List Nat}{w w':World}{r:Nat}{bs:List Int}(h:RdAt N w r bs)(k:KpL F w w')(hr:r∉F)(hs:∀b∈F,b∈N∨w.heap.size≤b)(hn:∀b∈N',b∈N∨w.heap.size≤b):RdAt N' w' r bs:=by
 obtain⟨a,n,c,T,h1,h2⟩:=h
 refine⟨a,n,c,T,(k.blk r (block_lt h1) hr).trans h1,(tSl (tI .u8)).mono h2 fun b hb=>⟨⟨Nat.lt_of_lt_of_le hb.1 k.size,fun hm=>?_⟩,k.blk b hb.1 fun hm=>?_⟩⟩
 ·rcases List.mem_cons.1 hm with rfl|hm
  ·exact hb.2 (by simp)
  ·rcases hn b hm with h|h
   ·exact hb.2 (List.mem_cons_of_mem _ h)
   ·have:=hb.1;omega
 ·rcases hs b hm with h|h
  ·exact hb.2 (List.mem_cons_of_mem _ h)
  ·have:=hb.1;omega
theorem RdAt.kp0{N:List Nat}{w w':World}{r:Nat}{bs:List Int}(h:RdAt N w r bs)(k:KpL [] w w'):RdAt N w' r bs:=h.step k (by simp) (by simp) fun b hb=>.inl hb
theorem rTake_ok{N:List Nat}{w:World}{r:Nat}{l rest:List Int}(h:RdAt N w r (l++rest)){x:Int}(hx:x=l.length):
 Calls Tryz.prog 161 #[.pointer (some ⟨r,0,none⟩),.int .i64 x] w fun e w'=>∃a n c,e=.returned (.slice a n c)∧KpL [r] w w'∧R (tSl (tI .u8)) (r::N) w' l [.slice a n c]∧RdAt N w' r rest:=by
 obtain⟨a,n,c,T,h1,h2⟩:=h
 obtain⟨hn,hc,hm⟩:=h2.sl_len
 have hmx:maxSl=140737488355328:=rfl
 rw[List.length_append]at hn
 have hld:LdA w ((⟨r,0,none⟩:Addr).add 0) [.slice a n c]:=by rw[add_lit];exact ldA_blk h1 0 _ rfl
 have hmin:min x (n:Int)=(l.length:Int):=by omega
 have s1:=h2.sub 0 l.length (by omega) (by omega)
 have s2:=h2.sub l.length n (by omega) (Nat.le_refl _)
 rw[List.drop_zero,Nat.sub_zero,List.take_append_of_le_length (Nat.le_refl _),List.take_length]at s1
 rw[List.drop_append_of_le_length (Nat.le_refl _),List.drop_length,List.nil_append,List.take_of_length_le (by omega)]at s2
 refine rTake_vc ⟨_,_,_,hld,(l.length:Int),by have:=pv_min (P:=Tryz.prog) (k:=.i64) (x:=x) (y:=n) (at_:=#[3,3]) (ty:=3);rw[hmin]at this;exact this,_,_,_,hld,_,_,_,pv_slice elB33 (l:=0) (h:=l.length) (.inr ⟨rfl,rfl⟩) (.inl rfl) (by omega) (by omega),_,_,_,hld,
  _,_,_,pv_slice elB33 (l:=l.length) (h:=n) (.inl rfl) (.inr ⟨rfl,rfl⟩) (by omega) (by omega),⟨_,hld,rfl⟩,by rw[add_lit];exact notFrozen h1,?_⟩
 rintro w1 rfl
 rw[add_lit]
 have hk:KpL [r] w (stA w ⟨r,0+0,none⟩ [.slice (if c=l.length then a else a.map (·.add (l.length*1))) (n - l.length) (c - l.length)] 0):=stA_kp w ⟨r,0+0,none⟩ _
 have hb:=stA_ld (off:=0) (l:=[.slice (if c=l.length then a else a.map (·.add (l.length*1))) (n - l.length) (c - l.length)]) h1 (by simp)
 exact⟨_,_,_,rfl,hk,s1.kp hk (by simp),⟨_,_,_,T,hb,s2.kp hk (by simp)⟩⟩
theorem rByte_ok{N:List Nat}{w:World}{r:Nat}{x:Int}{rest:List Int}(h:RdAt N w r (x::rest)):
 Calls Tryz.prog 128 #[.pointer (some ⟨r,0,none⟩)] w fun e w'=>e=.returned (.int .u8 x)∧KpL [r] w w'∧RdAt N w' r rest∧InI .u8 x:=by
 refine rByte_vc ⟨(rTake_ok (l:=[x]) (x:=1) h rfl).mono ?_⟩
 rintro e w1 ⟨a,n,c,rfl,hk,hR,hD⟩
 obtain⟨hn,_,_⟩:=hR.sl_len
 have hn':n=1:=hn
 subst hn'
 obtain⟨ad,cs,rfl,hv1,hld1,_,_⟩:=hR.sl_get (i:=0) (by simp)
 obtain⟨rfl,hok1⟩:=hv1.intD
 exact⟨_,_,_,rfl,_,hk,fun _=>⟨ad,rfl,by omega,by omega,_,hld1,rfl,hk,hD,hok1⟩,fun hc=>by simp at hc⟩
theorem or_add{x y i:Nat}(hx:x<2 ^ i)(h:2 ^ i*y+x<2 ^ 63):bitsI .or .u64 (x:Int) ((2 ^ i*y:Nat):Int)=((x+2 ^ i*y:Nat):Int):=by
 have e1:(BitVec.ofInt 64 (x:Int) ||| BitVec.ofInt 64 ((2 ^ i*y:Nat):Int)).toNat=x ||| 2 ^ i*y:=by
  rw[BitVec.toNat_or,BitVec.toNat_ofInt,BitVec.toNat_ofInt]
  congr 1<;>omega
 show IntKind.u64.wrap (((BitVec.ofInt 64 (x:Int) ||| BitVec.ofInt 64 ((2 ^ i*y:Nat):Int)).toNat:Nat):Int)=_
 rw[e1,Nat.or_comm,←Nat.two_pow_add_eq_or_of_lt hx,wrap_in (ini_u64.2 (by omega))]
 omega
theorem rNumber_ok{N:List Nat}{w:World}{r:Nat}{n:Int}{rest:List Int}(h:RdAt N w r (encU n++rest))(h0:0≤n)(h1:n<4611686018427387904):
 Calls Tryz.prog 131 #[.pointer (some ⟨r,0,none⟩)] w fun e w'=>e=.returned (.int .u64 n)∧KpL [r] w w'∧RdAt N w' r rest:=by
 refine rNumber_vc ⟨fun vs w'=>∃(j y acc:Nat),vs=[.int .u64 (acc:Int),.int .i64 ((7*j:Nat):Int)]∧j≤8∧acc<2 ^ (7*j)∧n=((acc+2 ^ (7*j)*y:Nat):Int)∧y<2 ^ (7*(8 - j)+6)∧KpL [r] w w'∧RdAt N w' r (encN (10 - j) y++rest),
  fun vs _=>match vs with|[_,.int _ s]=>100 - s.toNat|_=>0,⟨0,n.toNat,0,rfl,by omega,by simp,by simp;omega,by simp;omega,KpL.refl _ _,h⟩,?_⟩
 rintro n1 n2 w1 ⟨j,y,acc,hv,hj,hacc,hn,hy,hk,hD⟩
 simp only[List.cons.injEq,Value.int.injEq,true_and,and_true]at hv
 obtain⟨rfl,rfl⟩:=hv
 refine⟨fun hlt=>?_,fun hge=>by omega⟩
 obtain⟨f,hf⟩:∃f,10 - j=f+1:=⟨9 - j,by omega⟩
 rw[hf,encN]at hD
 have hp:(2:Nat) ^ (7*j)*2 ^ (7*(8 - j)+6)=2 ^ 62:=by rw[←Nat.pow_add];congr 1;omega
 have hpos:0<(2:Nat) ^ (7*j):=Nat.pow_pos (by omega)
 have hmin:min ((7*j:Nat):Int).toNat (IntKind.bits .u64)=7*j:=by show min _ 64=_;omega
 have hcast:∀z:Nat,(z:Int)*2 ^ (7*j)=((2 ^ (7*j)*z:Nat):Int):=by intro z;rw[Int.natCast_mul,Int.natCast_pow,Int.mul_comm];rfl
 have hyb:2 ^ (7*j)*y+acc<2 ^ 63:=by
  have:2 ^ (7*j)*y<2 ^ (7*j)*2 ^ (7*(8 - j)+6):=Nat.mul_lt_mul_of_pos_left hy hpos
  rw[hp]at this
  have h2:(2:Nat) ^ (7*j)≤2 ^ 56:=Nat.pow_le_pow_right (by omega) (by omega)
  omega
 by_cases hs:y<128
 ·rw[if_pos hs]at hD
  refine⟨(rByte_ok (x:=(y:Int)) (rest:=rest) (by simpa using hD)).mono ?_⟩
  rintro e w2 ⟨rfl,hk2,hD2,_⟩
  refine⟨_,rfl,_,hk2,?_⟩
  rw[and127 (by omega) (by omega),show((y:Int)%128)=(y:Int) by omega,hmin,hcast y,wrap_in (ini_u64.2 (by omega)),or_add hacc hyb]
  refine⟨ini_u64.2 (by omega),by omega,fun _=>⟨by rw[hn],hk.trans hk2,hD2⟩,fun hc=>by omega⟩
 ·rw[if_neg hs]at hD
  refine⟨(rByte_ok (x:=((y%128+128:Nat):Int)) (rest:=encN f (y / 128)++rest) (by simpa using hD)).mono ?_⟩
  rintro e w2 ⟨rfl,hk2,hD2,_⟩
  have hyd:2 ^ (7*j)*(y%128)+acc<2 ^ 63:=by
   have:2 ^ (7*j)*(y%128)≤2 ^ (7*j)*y:=Nat.mul_le_mul_left _ (Nat.mod_le _ _)
   omega
  refine⟨_,rfl,_,hk2,?_⟩
  rw[and127 (by omega) (by omega),show(((y%128+128:Nat):Int)%128)=((y%128:Nat):Int) by omega,hmin,hcast (y%128),wrap_in (ini_u64.2 (by omega)),or_add hacc hyd]
  have hj7:j≤7:=by
   apply Classical.byContradiction
   intro hc
   have:j=8:=by omega
   subst this
   simp at hy
   omega
  have e7:IntKind.i64.wrap (((7*j:Nat):Int)+7)=((7*(j+1):Nat):Int):=by rw[wrap_in (ini_i64.2 (by omega))];omega
  have hsplit:y=y%128+128*(y / 128):=by omega
  refine⟨ini_u64.2 (by omega),by omega,fun hc=>by omega,fun _=>⟨⟨j+1,y / 128,acc+2 ^ (7*j)*(y%128),by rw[e7],by omega,?_,?_,?_,hk.trans hk2,?_⟩,?_⟩⟩
  ·rw[show 7*(j+1)=7*j+7 from by omega,Nat.pow_add]
   have:2 ^ (7*j)*(y%128)≤2 ^ (7*j)*127:=Nat.mul_le_mul_left _ (by omega)
   omega
  ·rw[hn]
   congr 1
   rw[show 7*(j+1)=7*j+7 from by omega,Nat.pow_add,Nat.mul_assoc,Nat.add_assoc,←Nat.mul_add]
   congr 2
  ·have:(2:Nat) ^ (7*(8 - j)+6)=2 ^ (7*(8 - (j+1))+6)*128:=by
    rw[show 7*(8 - j)+6=7*(8 - (j+1))+6+7 from by omega,Nat.pow_add]
   omega
  ·rw[show 10 - (j+1)=f from by omega];exact hD2
  ·dsimp only;rw[e7];omega
theorem rCount_ok{N:List Nat}{w:World}{r:Nat}{n:Nat}{rest:List Int}(h:RdAt N w r (encU n++rest))(hn:n≤rest.length)(h1:n<4611686018427387904):
 Calls Tryz.prog 125 #[.pointer (some ⟨r,0,none⟩)] w fun e w'=>e=.returned (.int .i64 n)∧KpL [r] w w'∧RdAt N w' r rest:=by
 refine rCount_vc ⟨(rNumber_ok h (by omega) (by omega)).mono ?_⟩
 rintro e w1 ⟨rfl,hk,hD⟩
 obtain⟨a,m,c,T,hb,hR⟩:=hD
 obtain⟨hm,_,hm2⟩:=hR.sl_len
 have hmx:maxSl=140737488355328:=rfl
 have e1:IntKind.u64.wrap (m:Int)=m:=wrap_in (ini_u64.2 (by omega))
 rw[←show(⟨r,0,none⟩:Addr).add 0=⟨r,0,none⟩ by rw[add_lit]]at *
 refine⟨_,rfl,_,hk,a,m,c,by rw[add_lit];exact ldA_blk hb 0 _ rfl,(n:Int),?_,by rw[wrap_in (ini_i64.2 (by omega))],hk,⟨a,m,c,T,hb,hR⟩⟩
 have:=pv_min (P:=Tryz.prog) (k:=.u64) (x:=(n:Int)) (y:=(m:Int)) (at_:=#[119,119]) (ty:=119)
 rw[show min (n:Int) (m:Int)=n by omega]at this
 rw[e1]
 exact this
theorem rSigned_ok{N:List Nat}{w:World}{r:Nat}{x:Int}{rest:List Int}(h:RdAt N w r (encU (zig x)++rest))(h0 : -1152921504606846976≤x)(h1:x≤1152921504606846976):
 Calls Tryz.prog 127 #[.pointer (some ⟨r,0,none⟩)] w fun e w'=>e=.returned (.int .i64 x)∧KpL [r] w w'∧RdAt N w' r rest:=by
 have hz:0≤zig x∧zig x<4611686018427387904:=by unfold zig;split<;>omega
 refine rSigned_vc ⟨(rNumber_ok h hz.1 hz.2).mono ?_⟩
 rintro e w1 ⟨rfl,hk,hD⟩
 refine⟨_,rfl,_,hk,?_,hk,hD⟩
 congr 2
 have e1:Int.fdiv (zig x) (((2:Nat) ^ (1:Nat):Nat):Int)=zig x / 2:=by rw[fdiv_pow];rfl
 rw[e1,wrap_in (ini_i64.2 (by omega))]
 have e2:bitsI .and .u64 (zig x) 1=zig x%2:=by
  have hzn:zig x=((zig x).toNat:Int):=by omega
  rw[hzn]
  generalize (zig x).toNat=m at *
  show IntKind.u64.wrap (((BitVec.ofInt 64 (m:Int) &&& BitVec.ofInt 64 (1:Int)).toNat:Nat):Int)=_
  have e3:(BitVec.ofInt 64 (m:Int) &&& BitVec.ofInt 64 (1:Int)).toNat=m%2:=by
   rw[BitVec.toNat_and,BitVec.toNat_ofInt,BitVec.toNat_ofInt]
   rw[show((m:Int)%((2 ^ 64:Nat):Int)).toNat=m by omega,show((1:Int)%((2 ^ 64:Nat):Int)).toNat=1 by omega]
   exact Nat.and_one_is_mod m
  rw[e3,wrap_in (ini_u64.2 (by omega))]
  omega
 rw[e2,wrap_in (n:=zig x%2) (ini_i64.2 (by omega)),wrap_in (n:=0 - zig x%2) (ini_i64.2 (by omega))]
 have hu:=unzig_zig x
 unfold unzig at hu
 by_cases hev:zig x%2=0
 ·rw[if_pos hev]at hu
  rw[hev,hu]
  show IntKind.i64.wrap (((BitVec.ofInt 64 x ^^^ BitVec.ofInt 64 (0 - 0)).toNat:Nat):Int)=x
  have e3:BitVec.ofInt 64 ((0:Int) - 0)=0#64:=by decide
  rw[e3,BitVec.xor_zero,BitVec.toNat_ofInt]
  have hx0:0≤x:=by omega
  rw[show((x%((2 ^ 64:Nat):Int)).toNat:Int)=x by omega]
  exact wrap_in (ini_i64.2 (by omega))
 ·rw[if_neg hev]at hu
  have hod:zig x%2=1:=by omega
  rw[hod]
  generalize hq:zig x / 2=q at *
  show IntKind.i64.wrap (((BitVec.ofInt 64 q ^^^ BitVec.ofInt 64 (0 - 1)).toNat:Nat):Int)=x
  have e3:BitVec.ofInt 64 ((0:Int) - 1)=BitVec.allOnes 64:=by decide
  rw[e3,BitVec.xor_allOnes,BitVec.toNat_not,BitVec.toNat_ofInt]
  rw[show(q%((2 ^ 64:Nat):Int)).toNat=q.toNat by omega]
  have:((2 ^ 64 - 1 - q.toNat:Nat):Int)=18446744073709551616+x:=by omega
  rw[this]
  show(let m:=(18446744073709551616+x)%18446744073709551616;if (true&&decide (m≥9223372036854775808))=true then m - 18446744073709551616 else m)=x
  simp only[Bool.true_and,decide_eq_true_eq]
  split<;>omega
theorem rText_ok{N:List Nat}{w:World}{r:Nat}{s:ByteArray}{rest:List Int}(h:RdAt N w r (encS s++rest))(hs:s.size≤1000000):
 Calls Tryz.prog 126 #[.pointer (some ⟨r,0,none⟩)] w fun e w'=>e=.returned (.string s)∧KpL [r] w w'∧RdAt N w' r rest:=by
 unfold encS at h
 rw[List.append_assoc]at h
 refine rText_vc ⟨(rCount_ok h (by rw[List.length_append,strI_length];omega) (by omega)).mono ?_⟩
 rintro e w1 ⟨rfl,hk1,hD1⟩
 refine⟨_,rfl,_,hk1,⟨(rTake_ok hD1 (by rw[strI_length])).mono ?_⟩⟩
 rintro e w2 ⟨a,n,c,rfl,hk2,hR,hD2⟩
 refine⟨_,_,_,rfl,_,hk2,ev_string u33 u9 u5 hR ⟨_,rfl,[],KpL.refl _ _,?_,hk1.trans hk2,hD2⟩⟩
 rw[mkStr_strI]
end Go.Vc
namespace Go.Vc
open Go Go.Proofs
structure Vl.canon (v:Vl):Prop where
 k0:0≤v.k
 k3:v.k≤3
 text:v.k=3→v.n=0∧v.d=0∧v.s.size≤16
 num:v.k=2→v.s=ByteArray.empty∧0≤v.d∧v.d≤1099511627776∧-1099511627776≤v.n∧v.n≤1099511627776
 else_:v.k≠2→v.k≠3→v.d=0∧v.s=ByteArray.empty∧0≤v.n∧v.n≤255
theorem Vl.canon_of{v:Vl}(h:v.right=true):v.canon:=by
 have hp:v.plain=true→v.d=0∧v.s=ByteArray.empty:=by
  intro h
  unfold Vl.plain at h
  simp at h
  exact h
 unfold Vl.right at h
 split at h
 ·rename_i hk
  simp only[Bool.and_eq_true,decide_eq_true_eq]at h
  have:=hp h.1
  exact⟨by omega,by omega,by omega,by omega,fun _ _=>⟨this.1,this.2,by omega,by omega⟩⟩
 ·split at h
  ·rename_i hk
   simp only[Bool.and_eq_true,Bool.or_eq_true,decide_eq_true_eq]at h
   have:=hp h.1
   exact⟨by omega,by omega,by omega,by omega,fun _ _=>⟨this.1,this.2,by omega,by omega⟩⟩
  ·split at h
   ·rename_i hk
    simp only[Bool.and_eq_true,decide_eq_true_eq]at h
    exact⟨by omega,by omega,by omega,fun _=>⟨h.1,by omega,by omega,by omega,by omega⟩,by omega⟩
   ·split at h
    ·rename_i hk
     simp only[Bool.and_eq_true,decide_eq_true_eq]at h
     exact⟨by omega,by omega,fun _=>⟨h.1,h.2.1,h.2.2.1⟩,by omega,by omega⟩
    ·cases h
theorem Vl.canon.canon_ok{v:Vl}(h:v.canon):v.ok:=by
 have hmx:maxSl=140737488355328:=rfl
 have h0:=h.k0
 have h3:=h.k3
 have e:(ByteArray.empty).size=0:=rfl
 refine⟨ini_i64.2 (by omega),?_,?_,?_⟩
 all_goals
  by_cases k3:v.k=3
  ·have:=h.text k3;first|(rw[this.1];exact ini_i64.2 (by omega))|(rw[this.2.1];exact ini_i64.2 (by omega))|omega
  ·by_cases k2:v.k=2
   ·have:=h.num k2;first|(refine ini_i64.2 ?_;omega)|(rw[this.1,e];omega)
   ·have:=h.else_ k2 k3;first|(refine ini_i64.2 ?_;omega)|(rw[this.2.1,e];omega)
theorem encV_pos(v:Vl):1≤(encV v).length:=by unfold encV;simp
theorem flat_pos(l:List Vl):l.length≤(l.flatMap encV).length:=by
 induction l with
 |nil=>simp
 |cons v r ih =>
  rw[List.flatMap_cons,List.length_append,List.length_cons]
  have:=encV_pos v
  omega
theorem Acc.kpNew{α:Type}{e:Ty α}{M N:List Nat}{w w':World}{xs:List α}{a:Option Addr}{n c:Nat}(h:Acc e M w xs a n c)(k:KpL N w w')(hs:∀b∈N,b∈M∨w.heap.size≤b):Acc e M w' xs a n c:=by
 have:KpL (N.filter (· ∈M)) w w':=⟨k.os,k.tape,k.output,k.drawn,k.size,fun b hb hn=>k.blk b hb fun hm=>by
  rcases hs b hm with h|h
  ·exact hn (by simp[hm,h])
  ·omega⟩
 exact h.kp this (fun b hb=>by simpa using (List.mem_filter.1 hb).2)
set_option maxHeartbeats 1000000 in
theorem rValues_ok{M N:List Nat}{w:World}{r:Nat}{l:List Vl}{rest:List Int}(hM:∀b∈M,b<w.heap.size)(hr:r∈M)(h:RdAt N w r (encVs l++rest))(hl:l.length≤1000)(hc:∀v∈l,v.canon):
 Calls Tryz.prog 132 #[.pointer (some ⟨r,0,none⟩)] w fun e w'=>∃a n c,e=.returned (.slice a n c)∧KpL [r] w w'∧RdAt (blkL a++N) w' r rest∧Acc tVal M w' l a n c∧∀b∈blkL a,w.heap.size≤b:=by
 unfold encVs at h
 rw[List.append_assoc]at h
 have hfp:=flat_pos l
 refine rValues_vc ⟨(rCount_ok h (by rw[List.length_append];omega) (by omega)).mono ?_⟩
 rintro e w1 ⟨rfl,hk1,hD1⟩
 refine⟨_,rfl,_,hk1,fun vs w'=>∃(i:Nat) (a:Option Addr) (n c:Nat),vs=[.slice a n c,.int .i64 (i:Int)]∧i≤l.length∧KpL [r] w w'∧RdAt (blkL a++N) w' r ((l.drop i).flatMap encV++rest)∧Acc tVal M w' (l.take i) a n c∧∀b∈blkL a,w.heap.size≤b,
  fun vs _=>match vs with|[_,.int _ i]=>l.length - i.toNat|_=>0,⟨0,none,0,0,rfl,by omega,hk1,hD1,Acc.nil' _ (fun b hb=>Nat.lt_of_lt_of_le (hM b hb) hk1.size),by simp[blkL]⟩,?_⟩
 rintro a n c n2 w2 ⟨i,_,_,_,hv,hi,hk2,hD2,hA,hnew⟩
 simp only[List.cons.injEq,Value.int.injEq,Value.slice.injEq,true_and,and_true]at hv
 obtain⟨⟨rfl,rfl,rfl⟩,rfl⟩:=hv
 constructor
 ·intro hlt
  have gi:i<l.length:=by omega
  have hlA:=hA.len
  rw[List.length_take,Nat.min_eq_left hi]at hlA
  rw[List.drop_eq_getElem_cons gi,List.flatMap_cons,List.append_assoc]at hD2
  have htk:=List.take_append_getElem gi
  have hcan:=hc l[i] (List.getElem_mem gi)
  have hok:=hcan.canon_ok
  generalize hv:l[i]=v at *
  generalize hR:(l.drop (i+1)).flatMap encV++rest=rest2 at *
  have hk0:=hcan.k0
  have hk3:=hcan.k3
  unfold encV at hD2
  rw[List.cons_append]at hD2
  refine⟨(rByte_ok hD2).mono ?_⟩
  rintro e w3 ⟨rfl,hk3',hD3,_⟩
  have ek:v.k%256=v.k:=by omega
  rw[ek]
  have dec:l.length - ((i:Int)+1).toNat<l.length - (i:Int).toNat:=by omega
  have hrw2:=hD2.lt
  have fin:∀{wa:World} {b b2:Nat} {F:List Nat},KpL F w2 wa→(∀x∈F,x=r∨w2.heap.size≤x)→wa.heap[b]?=some (.cells #[.int .i64 v.k,.int .i64 v.n,.int .i64 v.d,.string v.s] 161 (0,0))→w2.heap.size≤b→RdAt (b2::(blkL a++N)) wa r rest2→w2.heap.size≤b2→
   ∀{Q:Value→World→Prop},(∀a' c' w',KpL (blkL a) wa w'→NotIn b (blkL a)→NotIn b2 (blkL a)→(∃(i':Nat) (a'':Option Addr) (n' c'':Nat),[Value.slice a' (n+1) c',.int .i64 ((i:Int)+1)]=[.slice a'' n' c'',.int .i64 (i':Int)]∧i'≤l.length∧KpL [r] w w'∧RdAt (blkL a''++N) w' r ((l.drop i').flatMap encV++rest)∧Acc tVal M w' (l.take i') a'' n' c''∧∀b∈blkL a'',w.heap.size≤b)→Q (.slice a' (n+1) c') w')→
   Ev Tryz.prog (Builtin.append_ #[79,79] 79 #[.slice a n c,.slice (some ⟨b,0,none⟩) 1 1]) wa Q:=by
   intro wa b b2 F hkF hF hb hb2 hDa hb2' Q hq
   have hAa:Acc tVal M wa (l.take i) a n c:=hA.kpNew hkF fun x hx=>(hF x hx).imp (fun h=>by rw[h];exact hr) id
   have hka:KpL [r] w wa:=hk2.more hkF fun x hx=>(hF x hx).imp (fun h=>by simp[h]) (fun h=>by have:=hk2.size;omega)
   have hRv:R tVal (blkL a++M) wa v [.int .i64 v.k,.int .i64 v.n,.int .i64 v.d,.string v.s]:=⟨rfl,hok⟩
   refine ev_append1 apV hAa hb hRv (by omega) fun a' c' w' hC=>hq a' c' w' hC.kp ⟨fun hm=>by have:=(hA.blk_lt _ hm).1;omega⟩ ⟨fun hm=>by have:=(hA.blk_lt _ hm).1;omega⟩ ⟨i+1,a',n+1,c',rfl,by omega,?_,?_,?_,?_⟩
   ·exact hka.more hC.kp fun x hx=>.inr (hnew x hx)
   ·rw[hR]
    refine hDa.step hC.kp (fun hm=>(hAa.blk_lt r hm).2 hr) (fun x hx=>.inl (by simp[hx])) fun x hx=>?_
    rcases List.mem_append.1 hx with hx|hx
    ·exact(hC.own x hx).imp (fun h=>by simp[h]) id
    ·exact .inl (by simp[hx])
   ·rw[←htk];exact hC.acc
   ·intro x hx
    rcases hC.own x hx with hx|hx
    ·exact hnew x hx
    ·have:=hk2.size;have:=hkF.size;omega
  have s23:=hk3'.size
  refine⟨_,rfl,_,hk3',ini_i64.2 (by omega),fun k3 hk3n=>⟨fun e3 w4 hk4 hkn4=>?_,fun e3=>⟨fun e2 w8 hk8 hkn8=>?_,fun e2 w14 hk14 hkn14=>?_⟩⟩⟩
  ·obtain⟨t1,t2,t3⟩:=hcan.text e3
   rw[if_pos e3]at hD3
   have hD4:RdAt (k3::(blkL a++N)) w4 r (encS v.s++rest2):=hD3.step hk4 (by simp) (by simp) fun x hx=>(List.mem_cons.1 hx).elim (fun h=>.inr (by omega)) .inl
   refine⟨(rText_ok hD4 (by omega)).mono ?_⟩
   rintro e w5 ⟨rfl,hk5,hD5⟩
   have hrk:k3≠r:=by omega
   refine⟨_,rfl,_,hk5,⟨by simpa using hrk⟩,fun k4 hk4n w6 hk6 hkn6=>?_⟩
   have s4:=hk4.size
   have s5:=hk5.size
   have s6:=hk6.size
   have hF:KpL [r,k3] w2 w6:=(((hk3'.mono (by simp)).trans (hk4.mono (by simp))).trans (hk5.mono (by simp))).trans (hk6.mono (by simp))
   have hb:=hkn6.1
   refine fin (b:=k4) (b2:=k3) hF (fun x hx=>by simp at hx;rcases hx with rfl|rfl;exact .inl rfl;exact .inr (by omega)) (by rw[t1,t2];exact hb) (by omega) (hD5.step hk6 (by simpa using hrk.symm) (by simp) fun x hx=>.inl hx) (by omega) fun a' c' w' hkp n1 n2 hinv=>⟨_,_,_,rfl,_,hkp,⟨n1,n2⟩,ini_i64.2 (by omega),fun _=>⟨hinv,dec⟩⟩
  ·obtain⟨t1,t2,t3,t4,t5⟩:=hcan.num e2
   rw[if_neg e3,if_pos e2,wrap_in (ini_u64.2 (by omega)),List.append_assoc]at hD3
   have hD4:RdAt (k3::(blkL a++N)) w8 r (encU (zig v.n)++(encU v.d++rest2)):=hD3.step hk8 (by simp) (by simp) fun x hx=>(List.mem_cons.1 hx).elim (fun h=>.inr (by omega)) .inl
   refine⟨(rSigned_ok hD4 (by omega) (by omega)).mono ?_⟩
   rintro e w9 ⟨rfl,hk9,hD9⟩
   have hrk:k3≠r:=by omega
   refine⟨_,rfl,_,hk9,⟨by simpa using hrk⟩,fun w10 hk10 hkn10=>?_⟩
   have hD10:RdAt (k3::(blkL a++N)) w10 r (encU v.d++rest2):=hD9.step hk10 (by simpa using hrk.symm) (by simp) fun x hx=>.inl hx
   refine⟨(rNumber_ok hD10 t2 (by omega)).mono ?_⟩
   rintro e w11 ⟨rfl,hk11,hD11⟩
   refine⟨_,rfl,_,hk11,⟨by simpa using hrk⟩,fun k7 hk7n w12 hk12 hkn12=>?_⟩
   have s8:=hk8.size
   have s9:=hk9.size
   have s10:=hk10.size
   have s11:=hk11.size
   have s12:=hk12.size
   have hF:KpL [r,k3] w2 w12:=(((((hk3'.mono (by simp)).trans (hk8.mono (by simp))).trans (hk9.mono (by simp))).trans (hk10.mono (by simp))).trans (hk11.mono (by simp))).trans (hk12.mono (by simp))
   have hb:=hkn12.1
   rw[wrap_in (ini_i64.2 (by omega))]at hb
   refine fin (b:=k7) (b2:=k3) hF (fun x hx=>by simp at hx;rcases hx with rfl|rfl;exact .inl rfl;exact .inr (by omega)) (by rw[t1];exact hb) (by omega) (hD11.step hk12 (by simpa using hrk.symm) (by simp) fun x hx=>.inl hx) (by omega) fun a' c' w' hkp n1 n2 hinv=>⟨_,_,_,rfl,_,hkp,⟨n1,n2⟩,ini_i64.2 (by omega),fun _=>⟨hinv,dec⟩⟩
  ·obtain⟨t1,t2,t3,t4⟩:=hcan.else_ e2 e3
   have en:v.n%256=v.n:=by omega
   rw[if_neg e3,if_neg e2,en]at hD3
   have hD4:RdAt (k3::(blkL a++N)) w14 r (v.n::rest2):=hD3.step hk14 (by simp) (by simp) fun x hx=>(List.mem_cons.1 hx).elim (fun h=>.inr (by omega)) .inl
   refine⟨(rByte_ok hD4).mono ?_⟩
   rintro e w15 ⟨rfl,hk15,hD15,_⟩
   have hrk:k3≠r:=by omega
   refine⟨_,rfl,_,hk15,⟨by simpa using hrk⟩,ini_i64.2 (by omega),fun k10 hk10n w16 hk16 hkn16=>?_⟩
   have s14:=hk14.size
   have s15:=hk15.size
   have s16:=hk16.size
   have hF:KpL [r,k3] w2 w16:=(((hk3'.mono (by simp)).trans (hk14.mono (by simp))).trans (hk15.mono (by simp))).trans (hk16.mono (by simp))
   have hb:=hkn16.1
   refine fin (b:=k10) (b2:=k3) hF (fun x hx=>by simp at hx;rcases hx with rfl|rfl;exact .inl rfl;exact .inr (by omega)) (by rw[t1,t2];exact hb) (by omega) (hD15.step hk16 (by simpa using hrk.symm) (by simp) fun x hx=>.inl hx) (by omega) fun a' c' w' hkp n1 n2 hinv=>⟨_,_,_,rfl,_,hkp,⟨n1,n2⟩,ini_i64.2 (by omega),fun _=>⟨hinv,dec⟩⟩
 ·intro hge
  have hie:i=l.length:=by omega
  subst hie
  rw[List.drop_length]at hD2
  rw[List.take_length]at hA
  exact⟨_,_,_,rfl,hk2,by simpa using hD2,hA,hnew⟩
end Go.Vc
namespace Go.Vc
open Go Go.Proofs
open Go.Value Go.Ending Go.IntKind
set_option maxRecDepth 100000
theorem add1_vc{vn vb vl l d:Nat}{nn:Int}{ba:Option Addr}{bl bc:Nat}{num nxt:Int}{w:World}{R:Ending→World→Prop}
 (hk:Hb w vn #[int i64 nn] 3∧
 Hb w vb #[slice ba bl bc] 33∧
 Hb w vl #[pointer (some (Addr.mk l 0 none))] 113∧
 Hb w l #[pointer (some (Addr.mk d 0 none)),int u64 num,int i64 nxt] 121)
 (hnd:([vn,vb,vl,l]:List Nat).Nodup)(hlt:∀b∈([vn,vb,vl,l]:List Nat),b<w.heap.size)
 (h :
 ∃(P1:List Value→World→Prop) (P2:List Value→World→Nat),(Hb w vn #[int i64 nn] 3∧
 Hb w vb #[slice ba bl bc] 33∧
 Hb w vl #[pointer (some (Addr.mk l 0 none))] 113∧
 Hb w l #[pointer (some (Addr.mk d 0 none)),int u64 num,int i64 nxt] 121→
 P1 [int i64 0] w)∧
 ∀n1 w1,P1 [int i64 n1] w1→
 (n1<nn→
 Hb w1 vn #[int i64 nn] 3∧
 Hb w1 vb #[slice ba bl bc] 33∧
 Hb w1 vl #[pointer (some (Addr.mk l 0 none))] 113∧
 Hb w1 l #[pointer (some (Addr.mk d 0 none)),int u64 num,int i64 nxt] 121→
 Ev Tryz.prog (Instr.makeSlice 33 (int i64 64) (int i64 64)) w1 fun y1 w2 =>
 ∃a1 k1 k2,y1=slice a1 k1 k2∧
 ∃l1,KpL l1 w1 w2∧
 (NotIn vn l1∧
 NotIn vb l1∧
 NotIn vl l1∧
 NotIn l l1)∧
 InI i64 (n1*64)∧
 ∃a2 k3 k4,Pv Tryz.prog (Instr.sliceAt 33 (slice ba bl bc) (some (int i64 (n1*64))) none none) (slice a2 k3 k4)∧
 (Hb w2 vn #[int i64 nn] 3∧
 Hb w2 vb #[slice ba bl bc] 33∧
 Hb w2 vl #[pointer (some (Addr.mk l 0 none))] 113∧
 Hb w2 l #[pointer (some (Addr.mk d 0 none)),int u64 num,int i64 nxt] 121→
 Ev Tryz.prog (Builtin.copy_ #[33,33] 3 #[slice a1 k1 k2,slice a2 k3 k4]) w2 fun y2 w3 =>
 ∃n2,y2=int i64 n2∧
 ∃l2,KpL l2 w2 w3∧
 (NotIn vn l2∧
 NotIn vb l2∧
 NotIn vl l2∧
 NotIn l l2)∧
 InI i64 (nxt+1)∧
 InI i64 (nxt+1+n1)∧
 ∀w4,KpL [] w3 w4→
 Hb w4 vn #[int i64 nn] 3∧
 Hb w4 vb #[slice ba bl bc] 33∧
 Hb w4 vl #[pointer (some (Addr.mk l 0 none))] 113∧
 Hb w4 l #[pointer (some (Addr.mk d 0 none)),int u64 num,int i64 nxt] 121→
 CallW Tryz.prog 109 #[pointer (some (Addr.mk l 0 none)),int i64 (nxt+1+n1)] w4 fun e1 w5 =>
 ∃n3,e1=returned (int i64 n3)∧
 KpL [] w4 w5∧
 (Hb w5 vn #[int i64 nn] 3∧
 Hb w5 vb #[slice ba bl bc] 33∧
 Hb w5 vl #[pointer (some (Addr.mk l 0 none))] 113∧
 Hb w5 l #[pointer (some (Addr.mk d 0 none)),int u64 num,int i64 nxt] 121→
 CallW Tryz.prog 32 #[pointer (some (Addr.mk d 0 none)),int i64 n3,slice a1 k1 k2] w5 fun e2 w6 =>
 ∃n4,e2=returned (int i64 n4)∧
 ∃l3,KpL l3 w5 w6∧
 (NotIn vn l3∧
 NotIn vb l3∧
 NotIn vl l3∧
 NotIn l l3)∧
 (n4≠0→
 Hb w6 vn #[int i64 nn] 3∧
 Hb w6 vb #[slice ba bl bc] 33∧
 Hb w6 vl #[pointer (some (Addr.mk l 0 none))] 113∧
 Hb w6 l #[pointer (some (Addr.mk d 0 none)),int u64 num,int i64 nxt] 121→
 R (returned (int i64 n4)) w6)∧
 (¬n4≠0→
 InI i64 (n1+1)∧
 (Hb w6 vn #[int i64 nn] 3∧
 Hb w6 vb #[slice ba bl bc] 33∧
 Hb w6 vl #[pointer (some (Addr.mk l 0 none))] 113∧
 Hb w6 l #[pointer (some (Addr.mk d 0 none)),int u64 num,int i64 nxt] 121→
 P1 [int i64 (n1+1)] w6∧
 P2 [int i64 (n1+1)] w6<P2 [int i64 n1] w1)))))∧
 (¬n1<nn→
 Hb w1 vn #[int i64 nn] 3∧
 Hb w1 vb #[slice ba bl bc] 33∧
 Hb w1 vl #[pointer (some (Addr.mk l 0 none))] 113∧
 Hb w1 l #[pointer (some (Addr.mk d 0 none)),int u64 num,int i64 nxt] 121→
 CallW Tryz.prog 37 #[pointer (some (Addr.mk d 0 none))] w1 fun e3 w7 =>
 ∃n5,e3=returned (int i64 n5)∧
 ∃l4,KpL l4 w1 w7∧
 (NotIn vn l4∧
 NotIn vb l4∧
 NotIn vl l4∧
 NotIn l l4)∧
 (Hb w7 vn #[int i64 nn] 3∧
 Hb w7 vb #[slice ba bl bc] 33∧
 Hb w7 vl #[pointer (some (Addr.mk l 0 none))] 113∧
 Hb w7 l #[pointer (some (Addr.mk d 0 none)),int u64 num,int i64 nxt] 121→
 R (returned (int i64 n5)) w7))):Calls Tryz.prog 108 #[pointer (some (Addr.mk vn 0 none)),pointer (some (Addr.mk vb 0 none)),pointer (some (Addr.mk vl 0 none))] w R :=
 fncK (an:={ loops:=[⟨2,[8],[3,4,5,6,9,10,11,12,13,14,15,16,17,18,19,20,21,22,23,24,25,26,27,28,29,30,31,32,33,34,35,36],[]⟩],muts:=[32,37],all:=true }) (args:=[.a (.c (.loc 0 0)),.a (.c (.loc 1 0)),.a (.c (.loc 2 0))]) (rho:=[vn,vb,vl,l]) (hp:=[(0,3,[.v (.int .i64 nn)]),(1,33,[.v (.slice ba bl bc)]),(2,113,[.loc 3 0]),(3,121,[.v (.pointer (some ⟨d,0,none⟩)),.v (.int .u64 num),.v (.int .i64 nxt)])]) Tryz_ok Tryz.func108 (by kernel_rfl) rfl rfl hk hnd hlt rfl (by simp) h
theorem add2_vc{vl vh l d:Nat}{ba:Option Addr}{bl bc:Nat}{num nxt:Int}{w:World}{R:Ending→World→Prop}
 (hk:Hb w vl #[pointer (some (Addr.mk l 0 none))] 113∧
 Hb w vh #[slice ba bl bc] 33∧
 Hb w l #[pointer (some (Addr.mk d 0 none)),int u64 num,int i64 nxt] 121)
 (hnd:([vl,vh,l]:List Nat).Nodup)(hlt:∀b∈([vl,vh,l]:List Nat),b<w.heap.size)
 (h :
 ∀w1,KpL [] w w1→
 Hb w1 l #[pointer (some (Addr.mk d 0 none)),int u64 num,int i64 nxt] 121→
 CallW Tryz.prog 109 #[pointer (some (Addr.mk l 0 none)),int i64 nxt] w1 fun e1 w2 =>
 ∃n1,e1=returned (int i64 n1)∧
 KpL [] w1 w2∧
 CallW Tryz.prog 32 #[pointer (some (Addr.mk d 0 none)),int i64 n1,slice ba bl bc] w2 fun e2 w3 =>
 ∃n2,e2=returned (int i64 n2)∧
 ∃l1,KpL l1 w2 w3∧
 (NotIn vl l1∧
 NotIn vh l1∧
 NotIn l l1)∧
 R (returned (int i64 n2)) w3):Calls Tryz.prog 110 #[pointer (some (Addr.mk vl 0 none)),pointer (some (Addr.mk vh 0 none))] w R :=
 fncK (an:={ muts:=[32,37] }) (args:=[.a (.c (.loc 0 0)),.a (.c (.loc 1 0))]) (rho:=[vl,vh,l]) (hp:=[(0,113,[.loc 2 0]),(1,33,[.v (.slice ba bl bc)]),(2,121,[.v (.pointer (some ⟨d,0,none⟩)),.v (.int .u64 num),.v (.int .i64 nxt)])]) Tryz_ok Tryz.func110 (by kernel_rfl) rfl rfl hk hnd hlt rfl (by simp) h
theorem note1_vc{vl vh l d:Nat}{ba:Option Addr}{bl bc:Nat}{num nxt:Int}{w:World}{R:Ending→World→Prop}
 (hk:Hb w vl #[pointer (some (Addr.mk l 0 none))] 113∧
 Hb w vh #[slice ba bl bc] 33∧
 Hb w l #[pointer (some (Addr.mk d 0 none)),int u64 num,int i64 nxt] 121)
 (hnd:([vl,vh,l]:List Nat).Nodup)(hlt:∀b∈([vl,vh,l]:List Nat),b<w.heap.size)
 (h :
 (2:Int)≠(0:Int)∧
 ∀w1,KpL [] w w1→
 CallW Tryz.prog 32 #[pointer (some (Addr.mk d 0 none)),int i64 (i64.wrap (num.tmod 2)),slice ba bl bc] w1 fun e1 w2 =>
 ∃n1,e1=returned (int i64 n1)∧
 ∃l1,KpL l1 w1 w2∧
 (NotIn vl l1∧
 NotIn vh l1∧
 NotIn l l1)∧
 R (returned (int i64 n1)) w2):Calls Tryz.prog 123 #[pointer (some (Addr.mk vl 0 none)),pointer (some (Addr.mk vh 0 none))] w R :=
 fncK (an:={ muts:=[32,37] }) (args:=[.a (.c (.loc 0 0)),.a (.c (.loc 1 0))]) (rho:=[vl,vh,l]) (hp:=[(0,113,[.loc 2 0]),(1,33,[.v (.slice ba bl bc)]),(2,121,[.v (.pointer (some ⟨d,0,none⟩)),.v (.int .u64 num),.v (.int .i64 nxt)])]) Tryz_ok Tryz.func123 (by kernel_rfl) rfl rfl hk hnd hlt rfl (by simp) h
theorem lAt_vc{l d:Nat}{num nxt:Int}{i:Int}{w:World}{R:Ending→World→Prop}
 (hk:Hb w l #[pointer (some (Addr.mk d 0 none)),int u64 num,int i64 nxt] 121)
 (h :
 (2:Int)≠(0:Int)∧
 ∀w1,KpL [] w w1→
 CallW Tryz.prog 50 #[pointer (some (Addr.mk d 0 none))] w1 fun e1 w2 =>
 ∃n1,e1=returned (int i64 n1)∧
 KpL [] w1 w2∧
 InI i64 (i64.wrap (num.tmod 2)*n1)∧
 InI i64 (2+i64.wrap (num.tmod 2)*n1)∧
 InI i64 (2+i64.wrap (num.tmod 2)*n1+i)∧
 R (returned (int i64 (2+i64.wrap (num.tmod 2)*n1+i))) w2):Calls Tryz.prog 109 #[pointer (some (Addr.mk l 0 none)),int i64 i] w R :=
 fncK (an:={}) (args:=[.a (.c (.loc 0 0)),.a (.c (.v (.int .i64 i)))]) (rho:=[l]) (hp:=[(0,121,[.v (.pointer (some ⟨d,0,none⟩)),.v (.int .u64 num),.v (.int .i64 nxt)])]) Tryz_ok Tryz.func109 (by kernel_rfl) rfl rfl hk (by simp) (by simpa using block_lt hk) rfl (by simp) h
theorem lClear_vc{l d:Nat}{num nxt:Int}{i:Int}{w:World}{R:Ending→World→Prop}
 (hk:Hb w l #[pointer (some (Addr.mk d 0 none)),int u64 num,int i64 nxt] 121)
 (h :
 ∃(P1:List Value→World→Prop) (P2:List Value→World→Nat),P1 [Value.bool false,int i64 i] w∧
 ∀b1 n1 w1,P1 [Value.bool b1,int i64 n1] w1→
 CallW Tryz.prog 50 #[pointer (some (Addr.mk d 0 none))] w1 fun e1 w2 =>
 ∃n2,e1=returned (int i64 n2)∧
 KpL [] w1 w2∧
 (n1<n2→
 ∀w3,KpL [] w2 w3→
 Hb w3 l #[pointer (some (Addr.mk d 0 none)),int u64 num,int i64 nxt] 121→
 CallW Tryz.prog 109 #[pointer (some (Addr.mk l 0 none)),int i64 n1] w3 fun e2 w4 =>
 ∃n3,e2=returned (int i64 n3)∧
 KpL [] w3 w4∧
 CallW Tryz.prog 35 #[pointer (some (Addr.mk d 0 none)),int i64 n3] w4 fun e3 w5 =>
 ∃a1 k1 k2 n4,e3=returned (tuple #[slice a1 k1 k2,int i64 n4])∧
 KpL [] w4 w5∧
 (n4≠0→
 R (returned (int i64 n4)) w5)∧
 (¬n4≠0→
 CallW Tryz.prog 116 (#[slice a1 k1 k2,func (Fn.func 117) #[] #[]]) w5 fun e4 w6 =>
 ∃b2,e4=returned (Value.bool b2)∧
 KpL [] w5 w6∧
 (b2=true→
 (∀w7,KpL [] w6 w7→
 Hb w7 l #[pointer (some (Addr.mk d 0 none)),int u64 num,int i64 nxt] 121→
 CallW Tryz.prog 109 #[pointer (some (Addr.mk l 0 none)),int i64 n1] w7 fun e5 w8 =>
 ∃n5,e5=returned (int i64 n5)∧
 KpL [] w7 w8∧
 Ev Tryz.prog (Instr.makeSlice 33 (int i64 64) (int i64 64)) w8 fun y1 w9 =>
 ∃a2 k3 k4,y1=slice a2 k3 k4∧
 ∃l1,KpL l1 w8 w9∧
 NotIn l l1∧
 (LdA w9 (Addr.mk l (0+0) none) [pointer (some (Addr.mk d 0 none))]∧
 True)∧
 CallW Tryz.prog 32 #[pointer (some (Addr.mk d 0 none)),int i64 n5,slice a2 k3 k4] w9 fun e6 w10 =>
 ∃n6,e6=returned (int i64 n6)∧
 ∃l2,KpL l2 w9 w10∧
 NotIn l l2∧
 (n6≠0→
 R (returned (int i64 n6)) w10)∧
 (¬n6≠0→
 InI i64 (n1+1)∧
 P1 [Value.bool true,int i64 (n1+1)] w10∧
 P2 [Value.bool true,int i64 (n1+1)] w10<P2 [Value.bool b1,int i64 n1] w1))∧
 ∀w11,KpL [] w6 w11→
 Ev Tryz.prog (Instr.makeSlice 33 (int i64 64) (int i64 64)) w11 fun y2 w12 =>
 ∃a3 k5 k6,y2=slice a3 k5 k6∧
 ∃l3,KpL l3 w11 w12∧
 NotIn l l3∧
 (LdA w12 (Addr.mk l (0+0) none) [pointer (some (Addr.mk d 0 none))]∧
 True)∧
 (Hb w12 l #[pointer (some (Addr.mk d 0 none)),int u64 num,int i64 nxt] 121→
 CallW Tryz.prog 109 #[pointer (some (Addr.mk l 0 none)),int i64 n1] w12 fun e7 w13 =>
 ∃n7,e7=returned (int i64 n7)∧
 KpL [] w12 w13∧
 CallW Tryz.prog 32 #[pointer (some (Addr.mk d 0 none)),int i64 n7,slice a3 k5 k6] w13 fun e8 w14 =>
 ∃n8,e8=returned (int i64 n8)∧
 ∃l4,KpL l4 w13 w14∧
 NotIn l l4∧
 (n8≠0→
 R (returned (int i64 n8)) w14)∧
 (¬n8≠0→
 InI i64 (n1+1)∧
 P1 [Value.bool true,int i64 (n1+1)] w14∧
 P2 [Value.bool true,int i64 (n1+1)] w14<P2 [Value.bool b1,int i64 n1] w1)))∧
 (b2=false→
 InI i64 (n1+1)∧
 P1 [Value.bool b1,int i64 (n1+1)] w6∧
 P2 [Value.bool b1,int i64 (n1+1)] w6<P2 [Value.bool b1,int i64 n1] w1)))∧
 (¬n1<n2→
 ((!b1)=true→
 R (returned (int i64 0)) w2)∧
 ((!b1)=false→
 CallW Tryz.prog 37 #[pointer (some (Addr.mk d 0 none))] w2 fun e9 w15 =>
 ∃n9,e9=returned (int i64 n9)∧
 ∃l5,KpL l5 w2 w15∧
 NotIn l l5∧
 R (returned (int i64 n9)) w15))):Calls Tryz.prog 57 #[pointer (some (Addr.mk l 0 none)),int i64 i] w R :=
 fncK (an:={ loops:=[⟨3,[5,6],[4,7,8,9,11,12,13,14,15,16,17,18,19,20,21,22,23,24,25,26,27,28,29,30,31,32,33,34,35,36,37,38,39,40,41,42,43,44,45,46,47],[]⟩],muts:=[32,37] }) (args:=[.a (.c (.loc 0 0)),.a (.c (.v (.int .i64 i)))]) (rho:=[l]) (hp:=[(0,121,[.v (.pointer (some ⟨d,0,none⟩)),.v (.int .u64 num),.v (.int .i64 nxt)])]) Tryz_ok Tryz.func57 (by kernel_rfl) rfl rfl hk (by simp) (by simpa using block_lt hk) rfl (by simp) h
theorem lRead_vc{l d:Nat}{num nxt:Int}{i:Int}{w:World}{R:Ending→World→Prop}
 (hk:Hb w l #[pointer (some (Addr.mk d 0 none)),int u64 num,int i64 nxt] 121)
 (h :
 Hb w l #[pointer (some (Addr.mk d 0 none)),int u64 num,int i64 nxt] 121→
 CallW Tryz.prog 50 #[pointer (some (Addr.mk d 0 none))] w fun e1 w1 =>
 ∃n1,e1=returned (int i64 n1)∧
 KpL [] w w1∧
 (n1≤i→
 Hb w1 l #[pointer (some (Addr.mk d 0 none)),int u64 num,int i64 nxt] 121→
 R (returned (tuple #[int u8 0,slice none 0 0,int i64 0,int i64 0])) w1)∧
 (¬n1≤i→
 ∀w2,KpL [] w1 w2→
 Hb w2 l #[pointer (some (Addr.mk d 0 none)),int u64 num,int i64 nxt] 121→
 CallW Tryz.prog 109 #[pointer (some (Addr.mk l 0 none)),int i64 i] w2 fun e2 w3 =>
 ∃n2,e2=returned (int i64 n2)∧
 KpL [] w2 w3∧
 (Hb w3 l #[pointer (some (Addr.mk d 0 none)),int u64 num,int i64 nxt] 121→
 CallW Tryz.prog 35 #[pointer (some (Addr.mk d 0 none)),int i64 n2] w3 fun e3 w4 =>
 ∃a1 k1 k2 n3,e3=returned (tuple #[slice a1 k1 k2,int i64 n3])∧
 KpL [] w3 w4∧
 (n3≠0→
 Hb w4 l #[pointer (some (Addr.mk d 0 none)),int u64 num,int i64 nxt] 121→
 R (returned (tuple #[int u8 0,slice none 0 0,int i64 0,int i64 n3])) w4)∧
 (¬n3≠0→
 ∃d1,a1=some d1∧
 (0:Int)≤(0:Int)∧
 (0:Int)<(↑k1:Int)∧
 ∃n4,LdA w4 (d1.add (Int.toNat 0*1)) [int u8 n4]∧
 ∃d2,a1=some d2∧
 (0:Int)≤(63:Int)∧
 (63:Int)<(↑k1:Int)∧
 ∃n5,LdA w4 (d2.add (Int.toNat 63*1)) [int u8 n5]∧
 (n4≠n5→
 ∀w5,KpL [] w4 w5→
 Hb w5 l #[pointer (some (Addr.mk d 0 none)),int u64 num,int i64 nxt] 121→
 R (returned (tuple #[int u8 0,slice none 0 0,int i64 0,int i64 0])) w5)∧
 (¬n4≠n5→
 ∃d3,a1=some d3∧
 (0:Int)≤(1:Int)∧
 (1:Int)<(↑k1:Int)∧
 ∃n6,LdA w4 (d3.add (Int.toNat 1*1)) [int u8 n6]∧
 InI i64 n6∧
 ∃d4,a1=some d4∧
 (0:Int)≤(2:Int)∧
 (2:Int)<(↑k1:Int)∧
 ∃n7,LdA w4 (d4.add (Int.toNat 2*1)) [int u8 n7]∧
 InI i64 n7∧
 ∃d5,a1=some d5∧
 (0:Int)≤(3:Int)∧
 (3:Int)<(↑k1:Int)∧
 ∃n8,LdA w4 (d5.add (Int.toNat 3*1)) [int u8 n8]∧
 InI i64 n8∧
 InI i64 (bitsI BinOp.or i64 (bitsI BinOp.or i64 (i64.wrap (n6*(↑((2:Nat) ^ (16:Nat)):Int))) (i64.wrap (n7*(↑((2:Nat) ^ (8:Nat)):Int)))) n8+(64:Int))∧
 InI i64 (bitsI BinOp.or i64 (bitsI BinOp.or i64 (i64.wrap (n6*(↑((2:Nat) ^ (16:Nat)):Int))) (i64.wrap (n7*(↑((2:Nat) ^ (8:Nat)):Int)))) n8+(64:Int) - (1:Int))∧
 (64:Int)≠(0:Int)∧
 InI i64 (i+i64.wrap ((bitsI BinOp.or i64 (bitsI BinOp.or i64 (i64.wrap (n6*(↑((2:Nat) ^ (16:Nat)):Int))) (i64.wrap (n7*(↑((2:Nat) ^ (8:Nat)):Int)))) n8+(64:Int) - (1:Int)).tdiv (64:Int)))∧
 ∀w6,KpL [] w4 w6→
 Hb w6 l #[pointer (some (Addr.mk d 0 none)),int u64 num,int i64 nxt] 121→
 CallW Tryz.prog 50 #[pointer (some (Addr.mk d 0 none))] w6 fun e4 w7 =>
 ∃n9,e4=returned (int i64 n9)∧
 KpL [] w6 w7∧
 (n9≤i+i64.wrap ((bitsI BinOp.or i64 (bitsI BinOp.or i64 (i64.wrap (n6*(↑((2:Nat) ^ (16:Nat)):Int))) (i64.wrap (n7*(↑((2:Nat) ^ (8:Nat)):Int)))) n8+(64:Int) - (1:Int)).tdiv (64:Int))→
 Hb w7 l #[pointer (some (Addr.mk d 0 none)),int u64 num,int i64 nxt] 121→
 R (returned (tuple #[int u8 0,slice none 0 0,int i64 0,int i64 0])) w7)∧
 (¬n9≤i+i64.wrap ((bitsI BinOp.or i64 (bitsI BinOp.or i64 (i64.wrap (n6*(↑((2:Nat) ^ (16:Nat)):Int))) (i64.wrap (n7*(↑((2:Nat) ^ (8:Nat)):Int)))) n8+(64:Int) - (1:Int)).tdiv (64:Int))→
 ∃(P1:List Value→World→Prop) (P2:List Value→World→Nat),(Hb w7 l #[pointer (some (Addr.mk d 0 none)),int u64 num,int i64 nxt] 121→
 P1 [slice none 0 0,int i64 0] w7)∧
 ∀a2 k3 k4 n10 w8,P1 [slice a2 k3 k4,int i64 n10] w8→
 (n10<i64.wrap ((bitsI BinOp.or i64 (bitsI BinOp.or i64 (i64.wrap (n6*(↑((2:Nat) ^ (16:Nat)):Int))) (i64.wrap (n7*(↑((2:Nat) ^ (8:Nat)):Int)))) n8+(64:Int) - (1:Int)).tdiv (64:Int))→
 InI i64 (i+1)∧
 InI i64 (i+1+n10)∧
 ∀w9,KpL [] w8 w9→
 Hb w9 l #[pointer (some (Addr.mk d 0 none)),int u64 num,int i64 nxt] 121→
 CallW Tryz.prog 109 #[pointer (some (Addr.mk l 0 none)),int i64 (i+1+n10)] w9 fun e5 w10 =>
 ∃n11,e5=returned (int i64 n11)∧
 KpL [] w9 w10∧
 (Hb w10 l #[pointer (some (Addr.mk d 0 none)),int u64 num,int i64 nxt] 121→
 CallW Tryz.prog 35 #[pointer (some (Addr.mk d 0 none)),int i64 n11] w10 fun e6 w11 =>
 ∃a3 k5 k6 n12,e6=returned (tuple #[slice a3 k5 k6,int i64 n12])∧
 KpL [] w10 w11∧
 (n12≠0→
 Hb w11 l #[pointer (some (Addr.mk d 0 none)),int u64 num,int i64 nxt] 121→
 R (returned (tuple #[int u8 0,slice none 0 0,int i64 0,int i64 n12])) w11)∧
 (¬n12≠0→
 Hb w11 l #[pointer (some (Addr.mk d 0 none)),int u64 num,int i64 nxt] 121→
 Ev Tryz.prog (Builtin.append_ #[33,33] 33 #[slice a2 k3 k4,slice a3 k5 k6]) w11 fun y1 w12 =>
 ∃a4 k7 k8,y1=slice a4 k7 k8∧
 ∃l1,KpL l1 w11 w12∧
 NotIn l l1∧
 InI i64 (n10+1)∧
 (Hb w12 l #[pointer (some (Addr.mk d 0 none)),int u64 num,int i64 nxt] 121→
 P1 [slice a4 k7 k8,int i64 (n10+1)] w12∧
 P2 [slice a4 k7 k8,int i64 (n10+1)] w12<P2 [slice a2 k3 k4,int i64 n10] w8))))∧
 (¬n10<i64.wrap ((bitsI BinOp.or i64 (bitsI BinOp.or i64 (i64.wrap (n6*(↑((2:Nat) ^ (16:Nat)):Int))) (i64.wrap (n7*(↑((2:Nat) ^ (8:Nat)):Int)))) n8+(64:Int) - (1:Int)).tdiv (64:Int))→
 ∃d6,a1=some d6∧
 (0:Int)≤(0:Int)∧
 (0:Int)<(↑k1:Int)∧
 ∃n13,LdA w8 (d6.add (Int.toNat 0*1)) [int u8 n13]∧
 ∃a5 k9 k10,Pv Tryz.prog (Instr.sliceAt (33:Nat) (slice a2 k3 k4) none (some (int i64 (bitsI BinOp.or i64 (bitsI BinOp.or i64 (i64.wrap (n6*(↑((2:Nat) ^ (16:Nat)):Int))) (i64.wrap (n7*(↑((2:Nat) ^ (8:Nat)):Int)))) n8))) none) (slice a5 k9 k10)∧
 InI i64 (i+1)∧
 InI i64 (i+(1:Int)+i64.wrap ((bitsI BinOp.or i64 (bitsI BinOp.or i64 (i64.wrap (n6*(↑((2:Nat) ^ (16:Nat)):Int))) (i64.wrap (n7*(↑((2:Nat) ^ (8:Nat)):Int)))) n8+(64:Int) - (1:Int)).tdiv (64:Int)))∧
 ∀w13,KpL [] w8 w13→
 Hb w13 l #[pointer (some (Addr.mk d 0 none)),int u64 num,int i64 nxt] 121→
 R (returned (tuple #[int u8 n13,slice a5 k9 k10,int i64 (i+(1:Int)+i64.wrap ((bitsI BinOp.or i64 (bitsI BinOp.or i64 (i64.wrap (n6*(↑((2:Nat) ^ (16:Nat)):Int))) (i64.wrap (n7*(↑((2:Nat) ^ (8:Nat)):Int)))) n8+(64:Int) - (1:Int)).tdiv (64:Int))),int i64 (0:Int)])) w13))))))):Calls Tryz.prog 64 #[pointer (some (Addr.mk l 0 none)),int i64 i] w R :=
 fncK (an:={ loops:=[⟨13,[5,72],[4,6,7,11,12,13,73,74,75,76,77,78,79,80,81,82,83,84,85,86,87,88,89,90,91,92,93,94,95],[]⟩],all:=true }) (args:=[.a (.c (.loc 0 0)),.a (.c (.v (.int .i64 i)))]) (rho:=[l]) (hp:=[(0,121,[.v (.pointer (some ⟨d,0,none⟩)),.v (.int .u64 num),.v (.int .i64 nxt)])]) Tryz_ok Tryz.func64 (by kernel_rfl) rfl rfl hk (by simp) (by simpa using block_lt hk) rfl (by simp) h
theorem lNote_vc{l d:Nat}{num nxt:Int}{w:World}{R:Ending→World→Prop}
 (hk:Hb w l #[pointer (some (Addr.mk d 0 none)),int u64 num,int i64 nxt] 121)
 (h :
 ∀k1,w.heap.size≤k1→
 ∀w1,KpL [] w w1→
 Hb w1 k1 #[pointer (some (Addr.mk l 0 none))] 113∧
 Hb w1 l #[pointer (some (Addr.mk d 0 none)),int u64 num,int i64 nxt] 121→
 Ev Tryz.prog (Instr.makeSlice 33 (int i64 64) (int i64 64)) w1 fun y1 w2 =>
 ∃a1 k2 k3,y1=slice a1 k2 k3∧
 ∃l1,KpL l1 w1 w2∧
 (NotIn k1 l1∧
 NotIn l l1)∧
 ∀k4,w2.heap.size≤k4→
 ∃(P1:List Value→World→Prop) (P2:List Value→World→Nat),(∀w3,KpL [] w2 w3→
 Hb w3 k4 #[slice a1 k2 k3] 33∧
 Hb w3 k1 #[pointer (some (Addr.mk l 0 none))] 113∧
 Hb w3 l #[pointer (some (Addr.mk d 0 none)),int u64 num,int i64 nxt] 121→
 P1 [int i64 0] w3)∧
 ∀n1 w4,P1 [int i64 n1] w4→
 (n1<8→
 InI i64 (7 - n1)∧
 InI i64 (8*(7 - n1))∧
 0≤8*(7 - n1)∧
 InI i64 (56+n1)∧
 ∃d1,a1=some d1∧
 0≤n1∧
 n1<(↑k2:Int)∧
 ∀w5,KpL [] w4 w5→
 Hb w5 k4 #[slice a1 k2 k3] 33∧
 Hb w5 k1 #[pointer (some (Addr.mk l 0 none))] 113∧
 Hb w5 l #[pointer (some (Addr.mk d 0 none)),int u64 num,int i64 nxt] 121→
 (∃l2,LdA w5 (d1.add (n1.toNat*1)) l2∧
 l2.length=1)∧
 NotFrozen w5 (d1.add (n1.toNat*1)) 1∧
 (NotIn k4 [(d1.add (n1.toNat*1)).block]∧
 NotIn k1 [(d1.add (n1.toNat*1)).block]∧
 NotIn l [(d1.add (n1.toNat*1)).block])∧
 ∀w6,w6=stA w5 (d1.add (n1.toNat*1)) [int u8 (u8.wrap (num.fdiv (2 ^ Min.min (8*(7 - n1)).toNat u64.bits)))] 0→
 Hb w6 k4 #[slice a1 k2 k3] 33∧
 Hb w6 k1 #[pointer (some (Addr.mk l 0 none))] 113∧
 Hb w6 l #[pointer (some (Addr.mk d 0 none)),int u64 num,int i64 nxt] 121→
 (LdA w6 (Addr.mk k4 0 none) [slice a1 k2 k3]∧
 True)∧
 ∃d2,a1=some d2∧
 0≤56+n1∧
 (56:Int)+n1<(↑k2:Int)∧
 (Hb w6 k4 #[slice a1 k2 k3] 33∧
 Hb w6 k1 #[pointer (some (Addr.mk l 0 none))] 113∧
 Hb w6 l #[pointer (some (Addr.mk d 0 none)),int u64 num,int i64 nxt] 121→
 (∃l3,LdA w6 (d2.add ((56+n1).toNat*1)) l3∧
 l3.length=1)∧
 NotFrozen w6 (d2.add ((56+n1).toNat*1)) 1∧
 (NotIn k4 [(d2.add ((56+n1).toNat*1)).block]∧
 NotIn k1 [(d2.add ((56+n1).toNat*1)).block]∧
 NotIn l [(d2.add ((56+n1).toNat*1)).block])∧
 ∀w7,w7=stA w6 (d2.add ((56+n1).toNat*1)) [int u8 (u8.wrap (num.fdiv (2 ^ Min.min (8*(7 - n1)).toNat u64.bits)))] 0→
 InI i64 (n1+1)∧
 (Hb w7 k4 #[slice a1 k2 k3] 33∧
 Hb w7 k1 #[pointer (some (Addr.mk l 0 none))] 113∧
 Hb w7 l #[pointer (some (Addr.mk d 0 none)),int u64 num,int i64 nxt] 121→
 P1 [int i64 (n1+1)] w7∧
 P2 [int i64 (n1+1)] w7<P2 [int i64 n1] w4)))∧
 (¬n1<8→
 ∀k5,w4.heap.size≤k5→
 ∀w8,KpL [] w4 w8→
 Hb w8 k5 #[func (Fn.func 123) #[] #[pointer (some (Addr.mk k1 0 none)),pointer (some (Addr.mk k4 0 none))],func (Fn.func 37) #[pointer (some (Addr.mk d 0 none))] #[]] 49∧
 Hb w8 k4 #[slice a1 k2 k3] 33∧
 Hb w8 k1 #[pointer (some (Addr.mk l 0 none))] 113∧
 Hb w8 l #[pointer (some (Addr.mk d 0 none)),int u64 num,int i64 nxt] 121→
 CallW Tryz.prog 55 #[slice (some (Addr.mk k5 0 none)) 2 2] w8 fun e1 w9 =>
 ∃n2,e1=returned (int i64 n2)∧
 ∃l4,KpL l4 w8 w9∧
 (NotIn k4 l4∧
 NotIn k1 l4∧
 NotIn l l4)∧
 (Hb w9 k4 #[slice a1 k2 k3] 33∧
 Hb w9 k1 #[pointer (some (Addr.mk l 0 none))] 113∧
 Hb w9 l #[pointer (some (Addr.mk d 0 none)),int u64 num,int i64 nxt] 121→
 R (returned (int i64 n2)) w9))):Calls Tryz.prog 60 #[pointer (some (Addr.mk l 0 none))] w R :=
 fncK (an:={ loops:=[⟨3,[7],[4,5,8,9,10,11,12,13,14,15,16,17,18,19,20,21,22,23,24,25,26,27,28],[]⟩],muts:=[55],all:=true }) (args:=[.a (.c (.loc 0 0))]) (rho:=[l]) (hp:=[(0,121,[.v (.pointer (some ⟨d,0,none⟩)),.v (.int .u64 num),.v (.int .i64 nxt)])]) Tryz_ok Tryz.func60 (by kernel_rfl) rfl rfl hk (by simp) (by simpa using block_lt hk) rfl (by simp) h
theorem lAdd_vc{l d:Nat}{num nxt:Int}{q:Int}{ba:Option Addr}{bl bc:Nat}{w:World}{R:Ending→World→Prop}
 (hk:Hb w l #[pointer (some (Addr.mk d 0 none)),int u64 num,int i64 nxt] 121)
 (h :
 ∀k1,w.heap.size≤k1→
 ∀k2,w.heap.size≤k2→
 InI i64 ((↑bl:Int)+(64:Int))∧
 InI i64 ((↑bl:Int)+(64:Int) - (1:Int))∧
 (64:Int)≠(0:Int)∧
 ∀k3,w.heap.size≤k3→
 ∀w1,KpL [] w w1→
 Hb w1 k3 #[int i64 (i64.wrap (((↑bl:Int)+(64:Int) - (1:Int)).tdiv (64:Int)))] 3∧
 Hb w1 k2 #[slice ba bl bc] 33∧
 Hb w1 k1 #[pointer (some (Addr.mk l 0 none))] 113∧
 Hb w1 l #[pointer (some (Addr.mk d 0 none)),int u64 num,int i64 nxt] 121→
 Ev Tryz.prog (Instr.makeSlice 33 (int i64 64) (int i64 64)) w1 fun y1 w2 =>
 ∃a1 k4 k5,y1=slice a1 k4 k5∧
 ∃l1,KpL l1 w1 w2∧
 (NotIn k3 l1∧
 NotIn k2 l1∧
 NotIn k1 l1∧
 NotIn l l1)∧
 ∀k6,w2.heap.size≤k6→
 ∃d1,a1=some d1∧
 (0:Int)≤(0:Int)∧
 (0:Int)<(↑k4:Int)∧
 ∀w3,KpL [] w2 w3→
 Hb w3 k6 #[slice a1 k4 k5] 33∧
 Hb w3 k3 #[int i64 (i64.wrap (((↑bl:Int)+(64:Int) - (1:Int)).tdiv (64:Int)))] 3∧
 Hb w3 k2 #[slice ba bl bc] 33∧
 Hb w3 k1 #[pointer (some (Addr.mk l 0 none))] 113∧
 Hb w3 l #[pointer (some (Addr.mk d 0 none)),int u64 num,int i64 nxt] 121→
 (∃l2,LdA w3 (d1.add (Int.toNat 0*1)) l2∧
 l2.length=1)∧
 NotFrozen w3 (d1.add (Int.toNat 0*1)) 1∧
 (NotIn k6 [(d1.add (Int.toNat 0*1)).block]∧
 NotIn k3 [(d1.add (Int.toNat 0*1)).block]∧
 NotIn k2 [(d1.add (Int.toNat 0*1)).block]∧
 NotIn k1 [(d1.add (Int.toNat 0*1)).block]∧
 NotIn l [(d1.add (Int.toNat 0*1)).block])∧
 ∀w4,w4=stA w3 (d1.add (Int.toNat 0*1)) [int u8 q] 0→
 Hb w4 k6 #[slice a1 k4 k5] 33∧
 Hb w4 k3 #[int i64 (i64.wrap (((↑bl:Int)+(64:Int) - (1:Int)).tdiv (64:Int)))] 3∧
 Hb w4 k2 #[slice ba bl bc] 33∧
 Hb w4 k1 #[pointer (some (Addr.mk l 0 none))] 113∧
 Hb w4 l #[pointer (some (Addr.mk d 0 none)),int u64 num,int i64 nxt] 121→
 (LdA w4 (Addr.mk k6 0 none) [slice a1 k4 k5]∧
 True)∧
 ∃d2,a1=some d2∧
 (0:Int)≤(63:Int)∧
 (63:Int)<(↑k4:Int)∧
 (Hb w4 k6 #[slice a1 k4 k5] 33∧
 Hb w4 k3 #[int i64 (i64.wrap (((↑bl:Int)+(64:Int) - (1:Int)).tdiv (64:Int)))] 3∧
 Hb w4 k2 #[slice ba bl bc] 33∧
 Hb w4 k1 #[pointer (some (Addr.mk l 0 none))] 113∧
 Hb w4 l #[pointer (some (Addr.mk d 0 none)),int u64 num,int i64 nxt] 121→
 (∃l3,LdA w4 (d2.add (Int.toNat 63*1)) l3∧
 l3.length=1)∧
 NotFrozen w4 (d2.add (Int.toNat 63*1)) 1∧
 (NotIn k6 [d2.block]∧
 NotIn k3 [d2.block]∧
 NotIn k2 [d2.block]∧
 NotIn k1 [d2.block]∧
 NotIn l [d2.block])∧
 ∀w5,w5=stA w4 (d2.add (Int.toNat 63*1)) [int u8 q] 0→
 ∃d3,a1=some d3∧
 (0:Int)≤(1:Int)∧
 (1:Int)<(↑k4:Int)∧
 ∀w6,KpL [] w5 w6→
 Hb w6 k6 #[slice a1 k4 k5] 33∧
 Hb w6 k3 #[int i64 (i64.wrap (((↑bl:Int)+(64:Int) - (1:Int)).tdiv (64:Int)))] 3∧
 Hb w6 k2 #[slice ba bl bc] 33∧
 Hb w6 k1 #[pointer (some (Addr.mk l 0 none))] 113∧
 Hb w6 l #[pointer (some (Addr.mk d 0 none)),int u64 num,int i64 nxt] 121→
 (∃l4,LdA w6 (d3.add (Int.toNat 1*1)) l4∧
 l4.length=1)∧
 NotFrozen w6 (d3.add (Int.toNat 1*1)) 1∧
 (NotIn k6 [d3.block]∧
 NotIn k3 [d3.block]∧
 NotIn k2 [d3.block]∧
 NotIn k1 [d3.block]∧
 NotIn l [d3.block])∧
 ∀w7,w7=stA w6 (d3.add (Int.toNat (1:Int)*(1:Nat))) [int u8 (u8.wrap ((↑bl:Int).fdiv (↑((2:Nat) ^ (16:Nat)):Int)))] (0:Nat)→
 Hb w7 k6 #[slice a1 k4 k5] 33∧
 Hb w7 k3 #[int i64 (i64.wrap (((↑bl:Int)+(64:Int) - (1:Int)).tdiv (64:Int)))] 3∧
 Hb w7 k2 #[slice ba bl bc] 33∧
 Hb w7 k1 #[pointer (some (Addr.mk l 0 none))] 113∧
 Hb w7 l #[pointer (some (Addr.mk d 0 none)),int u64 num,int i64 nxt] 121→
 (LdA w7 (Addr.mk k2 0 none) [slice ba bl bc]∧
 LdA w7 (Addr.mk k2 0 none) [slice ba bl bc]∧
 LdA w7 (Addr.mk k6 0 none) [slice a1 k4 k5]∧
 LdA w7 (Addr.mk k6 0 none) [slice a1 k4 k5]∧
 True)∧
 ∃d4,a1=some d4∧
 (0:Int)≤(2:Int)∧
 (2:Int)<(↑k4:Int)∧
 (Hb w7 k6 #[slice a1 k4 k5] 33∧
 Hb w7 k3 #[int i64 (i64.wrap (((↑bl:Int)+(64:Int) - (1:Int)).tdiv (64:Int)))] 3∧
 Hb w7 k2 #[slice ba bl bc] 33∧
 Hb w7 k1 #[pointer (some (Addr.mk l 0 none))] 113∧
 Hb w7 l #[pointer (some (Addr.mk d 0 none)),int u64 num,int i64 nxt] 121→
 (∃l5,LdA w7 (d4.add (Int.toNat 2*1)) l5∧
 l5.length=1)∧
 NotFrozen w7 (d4.add (Int.toNat 2*1)) 1∧
 (NotIn k6 [d4.block]∧
 NotIn k3 [d4.block]∧
 NotIn k2 [d4.block]∧
 NotIn k1 [d4.block]∧
 NotIn l [d4.block])∧
 ∀w8,w8=stA w7 (d4.add (Int.toNat (2:Int)*(1:Nat))) [int u8 (u8.wrap ((↑bl:Int).fdiv (↑((2:Nat) ^ (8:Nat)):Int)))] (0:Nat)→
 Hb w8 k6 #[slice a1 k4 k5] 33∧
 Hb w8 k3 #[int i64 (i64.wrap (((↑bl:Int)+(64:Int) - (1:Int)).tdiv (64:Int)))] 3∧
 Hb w8 k2 #[slice ba bl bc] 33∧
 Hb w8 k1 #[pointer (some (Addr.mk l 0 none))] 113∧
 Hb w8 l #[pointer (some (Addr.mk d 0 none)),int u64 num,int i64 nxt] 121→
 (LdA w8 (Addr.mk k2 0 none) [slice ba bl bc]∧
 LdA w8 (Addr.mk k6 0 none) [slice a1 k4 k5]∧
 True)∧
 ∃d5,a1=some d5∧
 (0:Int)≤(3:Int)∧
 (3:Int)<(↑k4:Int)∧
 (Hb w8 k6 #[slice a1 k4 k5] 33∧
 Hb w8 k3 #[int i64 (i64.wrap (((↑bl:Int)+(64:Int) - (1:Int)).tdiv (64:Int)))] 3∧
 Hb w8 k2 #[slice ba bl bc] 33∧
 Hb w8 k1 #[pointer (some (Addr.mk l 0 none))] 113∧
 Hb w8 l #[pointer (some (Addr.mk d 0 none)),int u64 num,int i64 nxt] 121→
 (∃l6,LdA w8 (d5.add (Int.toNat 3*1)) l6∧
 l6.length=1)∧
 NotFrozen w8 (d5.add (Int.toNat 3*1)) 1∧
 (NotIn k6 [d5.block]∧
 NotIn k3 [d5.block]∧
 NotIn k2 [d5.block]∧
 NotIn k1 [d5.block]∧
 NotIn l [d5.block])∧
 ∀w9,w9=stA w8 (d5.add (Int.toNat (3:Int)*(1:Nat))) [int u8 (u8.wrap (↑bl:Int))] (0:Nat)→
 ∀k7,w9.heap.size≤k7→
 ∀w10,KpL [] w9 w10→
 Hb w10 k7 #[func (Fn.func 108) #[] #[pointer (some (Addr.mk k3 0 none)),pointer (some (Addr.mk k2 0 none)),pointer (some (Addr.mk k1 0 none))],func (Fn.func 110) #[] #[pointer (some (Addr.mk k1 0 none)),pointer (some (Addr.mk k6 0 none))],func (Fn.func 37) #[pointer (some (Addr.mk d 0 none))] #[]] 49∧
 Hb w10 k6 #[slice a1 k4 k5] 33∧
 Hb w10 k3 #[int i64 (i64.wrap (((↑bl:Int)+(64:Int) - (1:Int)).tdiv (64:Int)))] 3∧
 Hb w10 k2 #[slice ba bl bc] 33∧
 Hb w10 k1 #[pointer (some (Addr.mk l 0 none))] 113∧
 Hb w10 l #[pointer (some (Addr.mk d 0 none)),int u64 num,int i64 nxt] 121→
 CallW Tryz.prog 55 #[slice (some (Addr.mk k7 0 none)) 3 3] w10 fun e1 w11 =>
 ∃n1,e1=returned (int i64 n1)∧
 ∃l7,KpL l7 w10 w11∧
 (NotIn k6 l7∧
 NotIn k3 l7∧
 NotIn k2 l7∧
 NotIn k1 l7∧
 NotIn l l7)∧
 (n1=0→
 InI i64 ((1:Int)+i64.wrap (((↑bl:Int)+(64:Int) - (1:Int)).tdiv (64:Int)))∧
 InI i64 (nxt+((1:Int)+i64.wrap (((↑bl:Int)+(64:Int) - (1:Int)).tdiv (64:Int))))∧
 ∀w12,KpL [l] w11 w12→
 Hb w12 k6 #[slice a1 k4 k5] 33∧
 Hb w12 k3 #[int i64 (i64.wrap (((↑bl:Int)+(64:Int) - (1:Int)).tdiv (64:Int)))] 3∧
 Hb w12 k2 #[slice ba bl bc] 33∧
 Hb w12 k1 #[pointer (some (Addr.mk l 0 none))] 113∧
 Hb w12 l #[pointer (some (Addr.mk d (0:Nat) none)),int u64 num,int i64 (nxt+((1:Int)+i64.wrap (((↑bl:Int)+(64:Int) - (1:Int)).tdiv (64:Int))))] 121→
 R (returned (int i64 n1)) w12)∧
 (¬n1=0→
 Hb w11 k6 #[slice a1 k4 k5] 33∧
 Hb w11 k3 #[int i64 (i64.wrap (((↑bl:Int)+(64:Int) - (1:Int)).tdiv (64:Int)))] 3∧
 Hb w11 k2 #[slice ba bl bc] 33∧
 Hb w11 k1 #[pointer (some (Addr.mk l 0 none))] 113∧
 Hb w11 l #[pointer (some (Addr.mk d 0 none)),int u64 num,int i64 nxt] 121→
 R (returned (int i64 n1)) w11))))):Calls Tryz.prog 52 #[pointer (some (Addr.mk l 0 none)),int u8 q,slice ba bl bc] w R :=
 fncK (an:={ muts:=[55],all:=true }) (args:=[.a (.c (.loc 0 0)),.a (.c (.v (.int .u8 q))),.a (.c (.v (.slice ba bl bc)))]) (rho:=[l]) (hp:=[(0,121,[.v (.pointer (some ⟨d,0,none⟩)),.v (.int .u64 num),.v (.int .i64 nxt)])]) Tryz_ok Tryz.func52 (by kernel_rfl) rfl rfl hk (by simp) (by simpa using block_lt hk) rfl (by simp) h
theorem all_vc{a:Option Addr}{n c:Nat}{w:World}{R:Ending→World→Prop}
 (h :
 ∃(P1:List Value→World→Prop) (P2:List Value→World→Nat),P1 [int i64 0] w∧
 ∀n1 w1,P1 [int i64 n1] w1→
 (n1<(↑n:Int)→
 ∃d1,a=some d1∧
 0≤n1∧
 n1<(↑n:Int)∧
 ∃x1 v1 v2,LdA w1 (d1.add (n1.toNat*1)) [func (Fn.func x1) v1 v2]∧
 FuncOk Tryz.prog x1∧
 CallW Tryz.prog x1 ((v1.toList++[]++v2.toList).toArray) w1 fun e1 w2 =>
 ∃n2,e1=returned (int i64 n2)∧
 ∃l1,KpL l1 w1 w2∧
 (n2≠0→
 R (returned (int i64 n2)) w2)∧
 (¬n2≠0→
 InI i64 (n1+1)∧
 P1 [int i64 (n1+1)] w2∧
 P2 [int i64 (n1+1)] w2<P2 [int i64 n1] w1))∧
 (¬n1<(↑n:Int)→
 R (returned (int i64 0)) w1)):Calls Tryz.prog 55 #[slice a n c] w R :=
 fnc0 (an:={ loops:=[⟨2,[8],[2,4,5,9,10,11,12,13,14,15,16,17],[]⟩] }) (args:=[.a (.c (.v (.slice a n c)))]) Tryz_ok Tryz.func55 (by kernel_rfl) rfl rfl h
theorem nz_vc{x:Int}{w:World}{R:Ending→World→Prop}
 (h :
 R (returned (Value.bool (decide (x≠0)))) w):Calls Tryz.prog 117 #[int u8 x] w R :=
 fnc0 (an:={}) (args:=[.a (.c (.v (.int .u8 x)))]) Tryz_ok Tryz.func117 (by kernel_rfl) rfl rfl h
theorem newest_vc{d:Nat}{w:World}{R:Ending→World→Prop}
 (h :
 ∀k1,w.heap.size≤k1→
 ∃(P1:List Value→World→Prop) (P2:List Value→World→Nat),(∀w1,KpL [] w w1→
 Hb w1 k1 #[pointer (some (Addr.mk d 0 none)),int u64 0,int i64 0] 121→
 P1 [int i64 0,pointer (some (Addr.mk d 0 none)),int u64 0,int i64 0] w1)∧
 ∀n1 a1 n2 n3 w2,Hb w2 k1 #[pointer a1,int u64 n2,int i64 n3] 121→
 P1 [int i64 n1,pointer a1,int u64 n2,int i64 n3] w2→
 (n1<2→
 Hb w2 k1 #[pointer a1,int u64 n2,int i64 n3] 121→
 CallW Tryz.prog 35 #[pointer (some (Addr.mk d 0 none)),int i64 n1] w2 fun e1 w3 =>
 ∃a2 k2 k3 n4,e1=returned (tuple #[slice a2 k2 k3,int i64 n4])∧
 KpL [] w2 w3∧
 (n4≠0→
 Hb w3 k1 #[pointer a1,int u64 n2,int i64 n3] 121→
 R (returned (tuple #[pointer none,int i64 n4])) w3)∧
 (¬n4≠0→
 ∃a3 k4 k5,Pv Tryz.prog (Instr.sliceAt 33 (slice a2 k2 k3) none (some (int i64 8)) none) (slice a3 k4 k5)∧
 ∃(P3:List Value→World→Prop) (P4:List Value→World→Nat),(Hb w3 k1 #[pointer a1,int u64 n2,int i64 n3] 121→
 P3 [int u64 0,int i64 0] w3)∧
 ∀n5 n6 w4,P3 [int u64 n5,int i64 n6] w4→
 (n6<(↑k4:Int)→
 ∃d1,a3=some d1∧
 0≤n6∧
 n6<(↑k4:Int)∧
 (Hb w4 k1 #[pointer a1,int u64 n2,int i64 n3] 121→
 ∃n7,LdA w4 (d1.add (n6.toNat*1)) [int u8 n7]∧
 InI u64 n7∧
 InI i64 (n6+1)∧
 (Hb w4 k1 #[pointer a1,int u64 n2,int i64 n3] 121→
 P3 [int u64 (bitsI BinOp.or u64 (u64.wrap (n5*(↑((2:Nat) ^ (8:Nat)):Int))) n7),int i64 (n6+(1:Int))] w4∧
 P4 [int u64 (bitsI BinOp.or u64 (u64.wrap (n5*(↑((2:Nat) ^ (8:Nat)):Int))) n7),int i64 (n6+(1:Int))] w4<P4 [int u64 n5,int i64 n6] w4)))∧
 (¬n6<(↑k4:Int)→
 ∃a4 k6 k7,Pv Tryz.prog (Instr.sliceAt 33 (slice a2 k2 k3) none (some (int i64 8)) none) (slice a4 k6 k7)∧
 ∃a5 k8 k9,Pv Tryz.prog (Instr.sliceAt 33 (slice a2 k2 k3) (some (int i64 56)) none none) (slice a5 k8 k9)∧
 ∀w5,KpL [] w4 w5→
 Hb w5 k1 #[pointer a1,int u64 n2,int i64 n3] 121→
 CallW Tryz.prog 124 #[slice a4 k6 k7,slice a5 k8 k9] w5 fun e2 w6 =>
 ∃b1,e2=returned (Value.bool b1)∧
 KpL [] w5 w6∧
 (b1=true→
 (n2<n5→
 (2:Int)≠(0:Int)∧
 (i64.wrap (n5.tmod 2)=n1→
 InI i64 (n1+1)∧
 ∀w7,KpL [k1] w6 w7→
 Hb w7 k1 #[pointer a1,int u64 n5,int i64 n3] 121→
 P1 [int i64 (n1+1),pointer a1,int u64 n5,int i64 n3] w7∧
 P2 [int i64 (n1+1),pointer a1,int u64 n5,int i64 n3] w7<P2 [int i64 n1,pointer a1,int u64 n2,int i64 n3] w2)∧
 (¬i64.wrap (n5.tmod 2)=n1→
 InI i64 (n1+1)∧
 (Hb w6 k1 #[pointer a1,int u64 n2,int i64 n3] 121→
 P1 [int i64 (n1+1),pointer a1,int u64 n2,int i64 n3] w6∧
 P2 [int i64 (n1+1),pointer a1,int u64 n2,int i64 n3] w6<P2 [int i64 n1,pointer a1,int u64 n2,int i64 n3] w2)))∧
 (¬n2<n5→
 InI i64 (n1+1)∧
 (Hb w6 k1 #[pointer a1,int u64 n2,int i64 n3] 121→
 P1 [int i64 (n1+1),pointer a1,int u64 n2,int i64 n3] w6∧
 P2 [int i64 (n1+1),pointer a1,int u64 n2,int i64 n3] w6<P2 [int i64 n1,pointer a1,int u64 n2,int i64 n3] w2)))∧
 (b1=false→
 InI i64 (n1+1)∧
 (Hb w6 k1 #[pointer a1,int u64 n2,int i64 n3] 121→
 P1 [int i64 (n1+1),pointer a1,int u64 n2,int i64 n3] w6∧
 P2 [int i64 (n1+1),pointer a1,int u64 n2,int i64 n3] w6<P2 [int i64 n1,pointer a1,int u64 n2,int i64 n3] w2)))))∧
 (¬n1<2→
 Hb w2 k1 #[pointer a1,int u64 n2,int i64 n3] 121→
 R (returned (tuple #[pointer (some (Addr.mk k1 0 none)),int i64 0])) w2)):Calls Tryz.prog 63 #[pointer (some (Addr.mk d 0 none))] w R :=
 fnc0 (an:={ loops:=[⟨10,[8,29],[10,30,31,32,33,34,35,36,37,38],[]⟩,⟨3,[14],[2,3,5,6,7,8,10,15,16,17,18,19,20,21,22,23,24,25,26,27,28,29,30,31,32,33,34,35,36,37,38,39,40,41,42,43,44,45,46,47,48,49,50,51,52,53,54,55,56,57,58,59,60,61,62,63],[4]⟩],all:=true }) (args:=[.a (.c (.v (.pointer (some ⟨d,0,none⟩))))]) Tryz_ok Tryz.func63 (by kernel_rfl) rfl rfl h
theorem contains116_vc{a:Option Addr}{n c:Nat}{f:Nat}{fi ca:Array Value}{w:World}{R:Ending→World→Prop}
 (h :
 CallW Tryz.prog 157 #[slice a n c,func (Fn.func f) fi ca] w fun e1 w1 =>
 ∃n1,e1=returned (int i64 n1)∧
 KpL [] w w1∧
 R (returned (Value.bool (decide (0≤n1)))) w1):Calls Tryz.prog 116 #[slice a n c,func (Fn.func f) fi ca] w R :=
 fnc0 (an:={}) (args:=[.a (.c (.v (.slice a n c))),.a (.c (.v (.func (.func f) fi ca)))]) Tryz_ok Tryz.func116 (by kernel_rfl) rfl rfl h
theorem index157_vc{a:Option Addr}{n c:Nat}{f:Nat}{fi ca:Array Value}{w:World}{R:Ending→World→Prop}
 (h :
 ∃(P1:List Value→World→Prop) (P2:List Value→World→Nat),P1 [int i64 0] w∧
 ∀n1 w1,P1 [int i64 n1] w1→
 (n1<(↑n:Int)→
 ∃d1,a=some d1∧
 0≤n1∧
 n1<(↑n:Int)∧
 ∃n2,LdA w1 (d1.add (n1.toNat*1)) [int u8 n2]∧
 FuncOk Tryz.prog f∧
 CallW Tryz.prog f ((fi.toList++[int u8 n2]++ca.toList).toArray) w1 fun e1 w2 =>
 ∃b1,e1=returned (Value.bool b1)∧
 ∃l1,KpL l1 w1 w2∧
 (b1=true→
 R (returned (int i64 n1)) w2)∧
 (b1=false→
 InI i64 (n1+1)∧
 P1 [int i64 (n1+1)] w2∧
 P2 [int i64 (n1+1)] w2<P2 [int i64 n1] w1))∧
 (¬n1<(↑n:Int)→
 R (returned (int i64 (-1))) w1)):Calls Tryz.prog 157 #[slice a n c,func (Fn.func f) fi ca] w R :=
 fnc0 (an:={ loops:=[⟨2,[8],[4,5,9,10,11,12,13,14,15,16,17,18],[]⟩] }) (args:=[.a (.c (.v (.slice a n c))),.a (.c (.v (.func (.func f) fi ca)))]) Tryz_ok Tryz.func157 (by kernel_rfl) rfl rfl h
end Go.Vc
namespace Go.Vc
open Go Go.Proofs
def Steps(b:Nat):List (FuncId×Array Value×Array Value)→World→(Int→World→Prop)→Prop
 |[],w,R=>R 0 w
 |f::r,w,R=>FuncOk Tryz.prog f.1∧CallW Tryz.prog f.1 (f.2.1++f.2.2) w fun e w'=>∃n F,e=.returned (.int .i64 n)∧KpL F w w'∧NotIn b F∧(n≠0→R n w')∧(n=0→Steps b r w' R)
theorem all_ok{b:Nat}{fs:List (FuncId×Array Value×Array Value)}{w:World}{T:TypeId}(hb:w.heap[b]?=some (.cells (fs.map fun f=>Value.func (.func f.1) f.2.1 f.2.2).toArray T (0,0)))(hn:fs.length≤1000){c:Nat}
 {R:Ending→World→Prop}(h:Steps b fs w fun n w'=>R (.returned (.int .i64 n)) w'):Calls Tryz.prog 55 #[.slice (some ⟨b,0,none⟩) fs.length c] w R:=by
 refine all_vc ⟨fun vs w'=>∃i,vs=[.int .i64 i]∧0≤i∧i≤fs.length∧w'.heap[b]?=some (.cells (fs.map fun f=>Value.func (.func f.1) f.2.1 f.2.2).toArray T (0,0))∧Steps b (fs.drop i.toNat) w' fun n w'=>R (.returned (.int .i64 n)) w',
  fun vs _=>match vs with|[.int _ i]=>fs.length - i.toNat|_=>0,⟨0,rfl,by omega,by omega,hb,h⟩,?_⟩
 rintro n1 w1 ⟨i,hv,hi0,hi1,hb1,hs⟩
 simp only[List.cons.injEq,Value.int.injEq,true_and,and_true]at hv
 subst hv
 constructor
 ·intro hlt
  have hi:n1.toNat<fs.length:=by omega
  rw[List.drop_eq_getElem_cons hi]at hs
  obtain⟨hfo,hs⟩:=hs
  refine⟨_,rfl,hi0,hlt,fs[n1.toNat].1,fs[n1.toNat].2.1,fs[n1.toNat].2.2,?_,hfo,⟨?_⟩⟩
  ·rw[add_lit]
   refine ldA_blk hb1 _ _ ?_
   apply List.ext_getElem?
   intro j
   cases j with
   |zero=>simp[hi]
   |succ j=>simp;omega
  have e:(fs[n1.toNat].2.1.toList++[]++fs[n1.toNat].2.2.toList).toArray=fs[n1.toNat].2.1++fs[n1.toNat].2.2:=by apply Array.ext';simp
  rw[e]
  refine hs.calls.mono ?_
  rintro e w2 ⟨n,F,rfl,hk,hF,h1,h2⟩
  refine⟨n,rfl,F,hk,h1,fun hz=>⟨ini_i64.2 (by omega),⟨n1+1,rfl,by omega,by omega,by rw[hk.blk b (block_lt hb1) hF.no];exact hb1,?_⟩,?_⟩⟩
  ·rw[show(n1+1).toNat=n1.toNat+1 from by omega]
   exact h2 (Classical.not_not.1 hz)
  ·show fs.length - (n1+1).toNat<fs.length - n1.toNat
   omega
 ·intro hge
  rw[List.drop_eq_nil_of_le (by omega)]at hs
  exact hs
structure PredV {α:Type} (t:Ty α) (M:List Nat) (w0:World) (f:FuncId) (fi ca:Array Value) (p:α→Bool):Prop where
 ok:FuncOk Tryz.prog f
 calls:∀(x:α) (cs:List Value) (v:Value) (w:World),KpL [] w0 w→R t M w x cs→v=(match cs with|[v]=>v|cs=>.agg cs.toArray)→Calls Tryz.prog f (fi.toList++[v]++ca.toList).toArray w (PureR (.bool (p x)) w)
def idxOf{α:Type}(p:α→Bool):List α→Int→Int
 |[],_ => -1
 |x::r,i=>if p x then i else idxOf p r (i+1)
theorem idxOf_any{α:Type}(p:α→Bool):∀(l:List α) (i:Int),0≤i→decide (0≤idxOf p l i)=l.any p
 |[],i,_=>by simp[idxOf]
 |x::r,i,h=>by
  unfold idxOf
  cases hp:p x
  ·simp only[Bool.false_eq_true,if_false,List.any_cons,hp,Bool.false_or]
   exact idxOf_any p r (i+1) (by omega)
  ·simp[hp,h]
theorem index157_ok{M:List Nat}{w:World}{xs:List Int}{a:Option Addr}{n c:Nat}{f:FuncId}{fi ca:Array Value}{p:Int→Bool}(hR:R (tSl (tI .u8)) M w xs [.slice a n c])(hp:PredV (tI .u8) M w f fi ca p):
 Calls Tryz.prog 157 #[.slice a n c,.func (.func f) fi ca] w (PureR (.int .i64 (idxOf p xs 0)) w):=by
 obtain⟨rfl,h1,h2⟩:=hR.sl_len
 have hmx:maxSl=140737488355328:=rfl
 refine index157_vc ⟨fun vs w'=>∃i,vs=[.int .i64 i]∧0≤i∧i≤xs.length∧KpL [] w w'∧idxOf p (xs.drop i.toNat) i=idxOf p xs 0,fun vs _=>match vs with|[.int _ i]=>xs.length - i.toNat|_=>0,
  ⟨0,rfl,by omega,by omega,KpL.refl _ _,rfl⟩,?_⟩
 rintro n1 w1 ⟨i,hv,hi0,hi1,hk,he⟩
 simp only[List.cons.injEq,Value.int.injEq,true_and,and_true]at hv
 subst hv
 constructor
 ·intro hlt
  have hi:n1.toNat<xs.length:=by omega
  obtain⟨ad,cs,rfl,hv1,hld,_,_⟩:=(hR.kp0 hk).sl_get hi
  obtain⟨rfl,hin⟩:=hv1.intD
  rw[List.drop_eq_getElem_cons hi,idxOf]at he
  refine⟨ad,rfl,hi0,hlt,_,hld,hp.ok,⟨(hp.calls _ _ _ w1 hk hv1 rfl).mono ?_⟩⟩
  rintro e w2 ⟨rfl,hk2⟩
  refine⟨_,rfl,_,hk2,fun hb=>⟨?_,hk.trans hk2⟩,fun hb=>⟨ini_i64.2 (by omega),⟨n1+1,rfl,by omega,by omega,hk.trans hk2,?_⟩,?_⟩⟩
  ·rw[hb,if_pos rfl]at he;rw[he]
  ·rw[hb,if_neg (by simp)]at he
   rw[show(n1+1).toNat=n1.toNat+1 from by omega];exact he
  ·show xs.length - (n1+1).toNat<xs.length - n1.toNat
   omega
 ·intro hge
  rw[List.drop_eq_nil_of_le (by omega)]at he
  refine⟨?_,hk⟩
  rw[←he];rfl
theorem contains116_ok{M:List Nat}{w:World}{xs:List Int}{a:Option Addr}{n c:Nat}{f:FuncId}{fi ca:Array Value}{p:Int→Bool}(hR:R (tSl (tI .u8)) M w xs [.slice a n c])(hp:PredV (tI .u8) M w f fi ca p):
 Calls Tryz.prog 116 #[.slice a n c,.func (.func f) fi ca] w (PureR (.bool (xs.any p)) w):=by
 refine contains116_vc ⟨(index157_ok hR hp).mono ?_⟩
 rintro e w1 ⟨rfl,hk⟩
 exact⟨_,rfl,hk,by rw[idxOf_any p xs 0 (by omega)],hk⟩
theorem nz_pred(M:List Nat)(w0:World):PredV (tI .u8) M w0 117 #[] #[] (fun x=>decide (x≠0)):=by
 refine⟨⟨_,_,Tryz.func117,rfl⟩,?_⟩
 rintro x cs v w hk ⟨rfl,hin⟩ rfl
 exact nz_vc ⟨rfl,KpL.refl _ _⟩
end Go.Vc
namespace Go.Vc
open Go Go.Proofs
def LogAt(w:World)(l d:Nat)(num nxt:Int):Prop:=w.heap[l]?=some (.cells #[.pointer (some ⟨d,0,none⟩),.int .u64 num,.int .i64 nxt] 121 (0,0))
theorem LogAt.keep{w w':World}{l d:Nat}{num nxt:Int}{F:List Nat}(h:LogAt w l d num nxt)(k:KpL F w w')(hl:l∉F):LogAt w' l d num nxt:=(k.blk l (block_lt h) hl).trans h
def Dk.base(k:Dk)(num:Int):Nat:=2+(num%2).toNat*k.half
theorem Dk.half_le(k:Dk):k.half≤k.n:=by unfold Dk.half Dk.secs;omega
theorem lAt_ok{M F:List Nat}{w:World}{d l:Nat}{k:Dk}{num nxt:Int}(h:DkAt M w d k F)(hl:LogAt w l d num nxt)(h2:2≤k.n)(hnum:0≤num){i:Int}(hi0:0≤i)(hi1:i≤1000000):
 Calls Tryz.prog 109 #[.pointer (some ⟨l,0,none⟩),.int .i64 i] w (PureR (.int .i64 (k.base num+i)) w):=by
 refine lAt_vc hl ⟨by omega,fun w1 hk1=>⟨(dHalf_ok (h.kp0 hk1) h2).mono ?_⟩⟩
 rintro e w2 ⟨rfl,hk2⟩
 obtain⟨s,h3,h4,h5⟩:=h.ok.secs
 have hh:=k.half_le
 have e1:Int.tmod num 2=num%2:=Int.tmod_eq_emod_of_nonneg hnum
 have e2:IntKind.i64.wrap (num%2)=num%2:=wrap_in (ini_i64.2 (by omega))
 rw[e1,e2]
 have e3:((k.base num:Nat):Int)=2+num%2*(k.half:Int):=by
  unfold Dk.base
  rw[Int.natCast_add,Int.natCast_mul,Int.toNat_of_nonneg (by omega)]
  rfl
 have e4:num%2*(k.half:Int)=0∨num%2*(k.half:Int)=k.half:=by
  rcases Int.emod_two_eq num with h|h<;>rw[h]<;>simp
 refine⟨_,rfl,hk2,ini_i64.2 (by omega),ini_i64.2 (by omega),ini_i64.2 (by omega),?_,hk1.trans hk2⟩
 rw[e3]
def zeros:List Int:=List.replicate 64 0
def Dk.clearL(num:Int):Nat→Nat→Bool→Dk→Int×Dk
 |0,_,wr,k=>if wr=true then k.sync else (0,k)
 |f+1,i,wr,k =>
  if k.readE (k.base num+i:Nat)≠0 then (k.readE (k.base num+i:Nat),k)
  else if (secOf k.now (k.base num+i)).any (fun x=>decide (x≠0))=true then
   if (k.write (k.base num+i) zeros).1≠0 then k.write (k.base num+i) zeros else Dk.clearL num f (i+1) true (k.write (k.base num+i) zeros).2
  else Dk.clearL num f (i+1) wr k
def Dk.clear(k:Dk)(num:Int)(i:Nat):Int×Dk:=Dk.clearL num (k.half - i) i false k
theorem Dk.fails_n(k:Dk):k.fails.2.n=k.n:=by unfold Dk.fails;split;rfl;split<;>rfl
theorem Dk.fails_pend(k:Dk):k.fails.2.pend.length≤k.pend.length:=by
 unfold Dk.fails
 split
 ·exact Nat.zero_le _
 ·split<;>exact Nat.le_refl _
theorem Dk.write_n(k:Dk)(i:Nat)(b:List Int):(k.write i b).2.n=k.n:=by unfold Dk.write;split;rfl;exact Dk.fails_n _
theorem Dk.write_pend(k:Dk)(i:Nat)(b:List Int):(k.write i b).2.pend.length≤k.pend.length+1:=by
 unfold Dk.write
 split
 ·exact Nat.le_succ _
 ·have:=Dk.fails_pend (k.put i b)
  have e:(k.put i b).pend.length=k.pend.length+1:=by simp[Dk.put]
  exact Nat.le_trans this (by omega)
theorem Dk.sync_n(k:Dk):k.sync.2.n=k.n:=by unfold Dk.sync;split;rfl;split;exact Dk.fails_n _;exact Dk.fails_n k
theorem Dk.half_n{k k':Dk}(h:k'.n=k.n):k'.half=k.half:=by unfold Dk.half Dk.secs;rw[h]
theorem Dk.base_n{k k':Dk}(h:k'.n=k.n)(num:Int):k'.base num=k.base num:=by unfold Dk.base;rw[Dk.half_n h]
theorem Dk.base_le{k:Dk}{num:Int}{i:Nat}(h2:2≤k.n)(hi:i<k.half):k.base num+i<k.n:=by
 have hm:(num%2).toNat=0∨(num%2).toNat=1:=by omega
 have e:k.half=(k.n - 2) / 2:=rfl
 unfold Dk.base
 rcases hm with hm|hm<;>rw[hm]<;>omega
theorem zeros_R{w:World}{b:Nat}{M:List Nat}(hb:w.heap[b]?=some (.cells (List.replicate 64 (Value.int .u8 0)).toArray 5 (0,0)))(hM:b∉M):R (tSl (tI .u8)) M w zeros [.slice (some ⟨b,0,none⟩) 64 64]:=by
 have hb':w.heap[b]?=some (.cells (zeros.map (Value.int .u8)++[]).toArray 5 (0,0)):=by rw[hb];rfl
 exact R.ofBlk (c:=64) hb' hM (fun x hx=>by rw[(List.mem_replicate.1 hx).2];exact ini_u8.2 (by omega)) (by decide) (by decide)
theorem secOf_len{l:List Int}{i:Nat}(h:i*64+64≤l.length):(secOf l i).length=64:=by unfold secOf;simp;omega
set_option maxHeartbeats 1000000 in
theorem lClear_ok{M F:List Nat}{w:World}{d l:Nat}{k:Dk}{num nxt:Int}(h:DkAt M w d k F)(hl:LogAt w l d num nxt)(hlM:l∈M)(h2:2≤k.n)(hnum:0≤num){i0:Nat}(hi1:i0≤100000)(hpl:k.pend.length≤1000000):
 Calls Tryz.prog 57 #[.pointer (some ⟨l,0,none⟩),.int .i64 i0] w fun e w'=>e=.returned (.int .i64 (k.clear num i0).1)∧DkTo M F w d (k.clear num i0).2 w':=by
 obtain⟨s,hs1,hs2,hs3⟩:=h.ok.secs
 have hhalf:=k.half_le
 refine lClear_vc hl ⟨fun vs w'=>∃(i:Nat),∃wr k' F',vs=[.bool wr,.int .i64 (i:Int)]∧i≤100000∧(i≤k.half∨i=i0)∧DkAt M w' d k' F'∧Own F w F' w'∧LogAt w' l d num nxt∧k'.n=k.n∧k'.pend.length≤1000000+i∧
  Dk.clearL num (k.half - i) i wr k'=k.clear num i0,
  fun vs _=>match vs with|[_,.int _ i]=>k.half - i.toNat|_=>0,⟨i0,false,k,F,rfl,hi1,.inr rfl,h,Own.refl _ _,hl,rfl,by omega,rfl⟩,?_⟩
 rintro wr n1 w1 ⟨i,wr',k1,F1,hv,hi2,hi3,hD1,hO1,hL1,hn1,hp1,he1⟩
 simp only[List.cons.injEq,Value.int.injEq,Value.bool.injEq,true_and,and_true]at hv
 obtain⟨rfl,rfl⟩:=hv
 have hh1:=Dk.half_n hn1
 have hb1:=Dk.base_n hn1 num
 refine⟨(dHalf_ok hD1 (by show 2≤k1.n;omega)).mono ?_⟩
 rintro e w2 ⟨rfl,hk2⟩
 refine⟨_,rfl,hk2,fun hlt w3 hk3 hl3=>?_,fun hge=>⟨fun hw=>?_,fun hw=>?_⟩⟩
 ·have hlt':i<k.half:=by omega
  have hbl:=Dk.base_le (k:=k1) (num:=num) (by omega) (i:=i) (by omega)
  have hD3:=hD1.kp0 (hk2.trans hk3)
  have hO3:=hO1.kp0 (hk2.trans hk3)
  refine⟨(lAt_ok hD3 hl3 (by omega) hnum (i:=i) (by omega) (by omega)).mono ?_⟩
  rintro e w4 ⟨rfl,hk4⟩
  have hD4:=hD3.kp0 hk4
  have ebi:((k1.base num:Nat):Int)+(i:Int)=((k1.base num+i:Nat):Int):=by omega
  rw[ebi]
  have e1:k.half - i=(k.half - (i+1))+1:=by omega
  rw[e1,Dk.clearL]at he1
  refine⟨_,rfl,hk4,⟨(dRead_ok hD4 (N:=F1) (fun b hb=>(hD4.own_lt b hb).1) ((k1.base num+i:Nat):Int)).mono ?_⟩⟩
  rintro e w5 ⟨a,n,c,rfl,hk5,hR⟩
  have hD5:=hD4.kp0 hk5
  have hO5:=(hO3.kp0 hk4).kp0 hk5
  refine⟨_,_,_,_,rfl,hk5,fun hne=>?_,fun hz=>?_⟩
  ·rw[if_pos hne]at he1
   refine⟨by rw[←he1],?_⟩
   rw[←he1]
   exact⟨_,hD5,hO5⟩
  have hz':=Classical.not_not.1 hz
  rw[if_neg hz]at he1
  have hC:=hR hz'
  have hn64:n=64:=by rw[hC.acc.len,Int.toNat_natCast];exact secOf_len (by obtain⟨s,g1,g2,g3⟩:=hD5.ok.secs;omega)
  rw[Int.toNat_natCast]at hC
  refine⟨(contains116_ok (hC.acc.done (by have:maxSl=140737488355328:=rfl;omega)) (nz_pred F1 w5)).mono ?_⟩
  rintro e w6 ⟨rfl,hk6⟩
  have hD6:=hD5.kp0 hk6
  have hO6:=hO5.kp0 hk6
  have hl6:LogAt w6 l d num nxt:=((LogAt.keep hl3 hk4 (by simp)).keep hk5 (by simp)).keep hk6 (by simp)
  have hsc:=hD6.ok.secs
  refine⟨_,rfl,hk6,fun hb=>?_,fun hb=>?_⟩
  ·rw[if_pos hb]at he1
   have fin:∀{wa wb:World} {e:Ending},Own F w F1 wa→LogAt wa l d num nxt→(e=.returned (.int .i64 (k1.write (k1.base num+i) zeros).1)∧DkTo M F1 wa d (k1.write (k1.base num+i) zeros).2 wb)→
    ∃n6,e=.returned (.int .i64 n6)∧∃l2,KpL l2 wa wb∧NotIn l l2∧(n6≠0→(Ending.returned (.int .i64 n6)=.returned (.int .i64 (k.clear num i0).1)∧DkTo M F w d (k.clear num i0).2 wb))∧
    (¬n6≠0→InI .i64 ((i:Int)+1)∧(∃(j:Nat),∃wr k' F',[Value.bool true,Value.int .i64 ((i:Int)+1)]=[.bool wr,.int .i64 (j:Int)]∧j≤100000∧(j≤k.half∨j=i0)∧DkAt M wb d k' F'∧Own F w F' wb∧LogAt wb l d num nxt∧k'.n=k.n∧k'.pend.length≤1000000+j∧
      Dk.clearL num (k.half - j) j wr k'=k.clear num i0)∧k.half - ((i:Int)+1).toNat<k.half - (i:Int).toNat):=by
    rintro wa wb e hOa hLa ⟨rfl,F2,hD2,hO2⟩
    have hlF:l∉F1:=fun hm=>(hD1.own_lt l hm).2 hlM
    refine⟨_,rfl,F1,hO2.kp,⟨hlF⟩,fun hne=>?_,fun hz=>⟨ini_i64.2 (by omega),⟨i+1,true,_,F2,by simp,by omega,.inl (by omega),hD2,hOa.trans hO2,hLa.keep hO2.kp hlF,(Dk.write_n _ _ _).trans hn1,?_,?_⟩,by omega⟩⟩
    ·rw[if_pos hne]at he1
     exact⟨by rw[←he1],by rw[←he1];exact⟨F2,hD2,hOa.trans hO2⟩⟩
    ·have:=Dk.write_pend k1 (k1.base num+i) zeros;omega
    ·rw[if_neg hz]at he1;exact he1
   constructor
   ·intro w7 hk7 hl7
    refine⟨(lAt_ok (hD6.kp0 hk7) hl7 (by omega) hnum (i:=i) (by omega) (by omega)).mono ?_⟩
    rintro e w8 ⟨rfl,hk8⟩
    rw[ebi]
    refine⟨_,rfl,hk8,ev_make ez5 (by omega) (by omega) (by omega) fun w9 hb9 hk9=>⟨_,_,_,rfl,_,hk9,⟨by simp⟩,⟨?_,trivial⟩,?_⟩⟩
    ·have hl9:LogAt w9 l d num nxt:=(LogAt.keep hl7 hk8 (by simp)).keep hk9 (by simp)
     exact ldA_blk hl9 0 _ rfl
    have hk69:=(hk7.trans hk8).trans hk9
    have hl9:LogAt w9 l d num nxt:=hl6.keep hk69 (by simp)
    have hz9:R (tSl (tI .u8)) (F1++[]) w9 zeros [.slice (some ⟨w8.heap.size,0,none⟩) 64 64]:=zeros_R hb9 fun hm=>by
     rw[List.append_nil]at hm
     have:=((hD6.kp0 (hk7.trans hk8)).own_lt _ hm).1
     omega
    exact⟨(dWrite_ok (hD6.kp0 hk69) (by omega) (i:=k1.base num+i) (by obtain⟨s,g1,g2,g3⟩:=hsc;omega) hz9).mono fun e wb he=>fin (hO6.kp0 hk69) hl9 he⟩
   ·intro w7 hk7
    refine ev_make ez5 (by omega) (by omega) (by omega) fun w9 hb9 hk9=>⟨_,_,_,rfl,_,hk9,⟨by simp⟩,⟨?_,trivial⟩,fun hl9=>?_⟩
    ·have hl9:LogAt w9 l d num nxt:=(hl6.keep hk7 (by simp)).keep hk9 (by simp)
     exact ldA_blk hl9 0 _ rfl
    refine⟨(lAt_ok (hD6.kp0 (hk7.trans hk9)) hl9 (by omega) hnum (i:=i) (by omega) (by omega)).mono ?_⟩
    rintro e w10 ⟨rfl,hk10⟩
    rw[ebi]
    have hk69:=(hk7.trans hk9).trans hk10
    have hz9:R (tSl (tI .u8)) (F1++[]) w10 zeros [.slice (some ⟨w7.heap.size,0,none⟩) 64 64]:=(zeros_R hb9 fun hm=>by
     rw[List.append_nil]at hm
     have:=((hD6.kp0 hk7).own_lt _ hm).1
     omega).kp0 hk10
    exact⟨_,rfl,hk10,⟨(dWrite_ok (hD6.kp0 hk69) (by omega) (i:=k1.base num+i) (by obtain⟨s,g1,g2,g3⟩:=hsc;omega) hz9).mono fun e wb he=>fin (hO6.kp0 hk69) (hl6.keep hk69 (by simp)) he⟩⟩
  ·rw[if_neg (by rw[hb];exact Bool.false_ne_true)]at he1
   refine⟨ini_i64.2 (by omega),⟨i+1,wr,k1,F1,by simp,by omega,.inl (by omega),hD6,hO6,hl6,hn1,by omega,he1⟩,?_⟩
   show k.half - ((i:Int)+1).toNat<k.half - (i:Int).toNat
   omega
 ·have e1:k.half - i=0:=by omega
  rw[e1,Dk.clearL,if_neg (by simpa using hw)]at he1
  rw[←he1]
  exact⟨rfl,_,hD1.kp0 hk2,hO1.kp0 hk2⟩
 ·have e1:k.half - i=0:=by omega
  rw[e1,Dk.clearL,if_pos (by simpa using hw)]at he1
  refine⟨(dSync_ok (hD1.kp0 hk2) (by omega)).mono ?_⟩
  rintro e w3 ⟨rfl,F3,hD3,hO3⟩
  refine⟨_,rfl,_,hO3.kp,⟨fun hm=>(hD1.own_lt l hm).2 hlM⟩,?_,?_⟩
  ·rw[←he1]
  ·rw[←he1];exact⟨F3,hD3,(hO1.kp0 hk2).trans hO3⟩
end Go.Vc
namespace Go.Vc
open Go Go.Proofs
def part_(b:List Int)(i:Nat):List Int:=(b.drop (i*64)).take 64++List.replicate (64 - ((b.drop (i*64)).take 64).length) 0
theorem part_len(b:List Int)(i:Nat):(part_ b i).length=64:=by unfold part_;simp;omega
theorem part_by{b:List Int}(h:Byts b)(i:Nat):Byts (part_ b i):=((h.drop _).take _).app fun x hx=>by rw[(List.mem_replicate.1 hx).2];exact ini_u8.2 (by omega)
def Dk.add1L(at0:Nat)(b:List Int):Nat→Nat→Dk→Int×Dk
 |0,_,k=>k.sync
 |f+1,i,k=>if (k.write (at0+i) (part_ b i)).1≠0 then k.write (at0+i) (part_ b i) else Dk.add1L at0 b f (i+1) (k.write (at0+i) (part_ b i)).2
def secsOf(b:List Int):Nat:=(b.length+63) / 64
def headOf(q:Int)(n:Nat):List Int:=q::((n / 65536%256:Nat):Int)::((n / 256%256:Nat):Int)::((n%256:Nat):Int)::(List.replicate 59 0++[q])
def Dk.add1(k:Dk)(num:Int)(nxt:Nat)(b:List Int):Int×Dk:=Dk.add1L (k.base num+nxt+1) b (secsOf b) 0 k
def Dk.add(k:Dk)(num:Int)(nxt:Nat)(q:Int)(b:List Int):Int×Dk :=
 if (k.add1 num nxt b).1≠0 then k.add1 num nxt b
 else if ((k.add1 num nxt b).2.write (k.base num+nxt) (headOf q b.length)).1≠0 then (k.add1 num nxt b).2.write (k.base num+nxt) (headOf q b.length)
 else ((k.add1 num nxt b).2.write (k.base num+nxt) (headOf q b.length)).2.sync
theorem DkAt.news{M F N:List Nat}{w w':World}{d:Nat}{k:Dk}(h:DkAt M w d k F)(kp:KpL [] w w')(hN:∀b∈N,w.heap.size≤b∧b<w'.heap.size):DkAt (N++M) w' d k F :=
 h.step kp (by simp) fun b hb=>by
  rcases List.mem_append.1 hb with hb|hb
  ·exact⟨.inr (hN b hb).1,(hN b hb).2⟩
  ·exact⟨.inl hb,Nat.lt_of_lt_of_le (h.mlt b hb) kp.size⟩
theorem DkAt.weak{M M' F:List Nat}{w:World}{d:Nat}{k:Dk}(h:DkAt M w d k F)(hs:∀b∈M',b∈M):DkAt M' w d k F :=
 h.step (KpL.refl [] w) (by simp) fun b hb=>⟨.inl (hs b hb),h.mlt b (hs b hb)⟩
theorem DkAt.out{M F:List Nat}{w:World}{d:Nat}{k:Dk}(h:DkAt M w d k F){b:Nat}(hb:b∈M):NotIn b F:=⟨fun hm=>(h.own_lt b hm).2 hb⟩
theorem Dk.add1L_n(at0:Nat)(b:List Int):∀(f i:Nat) (k:Dk),(Dk.add1L at0 b f i k).2.n=k.n
 |0,_,k=>k.sync_n
 |f+1,i,k=>by
  unfold Dk.add1L
  split
  ·exact k.write_n _ _
  ·rw[Dk.add1L_n at0 b f];exact k.write_n _ _
theorem part_copy{b:List Int}{i:Nat}{x:List Int}(hx:x=((b.drop (i*64)).take (b.length - i*64)).take (min (b.length - i*64) 64)):
 (List.replicate 64 (Value.int .u8 0)).take 0++(x.map (Value.int .u8)++(List.replicate 64 (Value.int .u8 0)).drop (0+(x.map (Value.int .u8)).length))=(part_ b i).map (Value.int .u8)++[]:=by
 have e1:x=(b.drop (i*64)).take 64:=by
  rw[hx,List.take_take]
  apply List.ext_getElem?
  intro j
  simp only[List.getElem?_take,List.getElem?_drop]
  split<;>split
  ·rfl
  ·omega
  ·rw[List.getElem?_eq_none (by omega)]
  ·rfl
 subst e1
 unfold part_
 simp only[List.take_zero,List.nil_append,Nat.zero_add,List.length_map,List.drop_replicate,List.map_append,List.map_replicate,List.append_nil]
theorem add1_ok{M F:List Nat}{w:World}{d l vn vb vl:Nat}{k:Dk}{num:Int}{nxt:Nat}{b:List Int}{ba:Option Addr}{bl bc:Nat}(h:DkAt M w d k F)(hl:LogAt w l d num nxt)
 (hvn:w.heap[vn]?=some (.cells #[.int .i64 (secsOf b)] 3 (0,0)))(hvb:w.heap[vb]?=some (.cells #[.slice ba bl bc] 33 (0,0)))(hvl:w.heap[vl]?=some (.cells #[.pointer (some ⟨l,0,none⟩)] 113 (0,0)))
 (hnd:[vn,vb,vl,l].Nodup)(hM:∀x∈[vn,vb,vl,l],x∈M)(hb:R (tSl (tI .u8)) F w b [.slice ba bl bc])(h2:2≤k.n)(hnum:0≤num)(hfit:nxt+secsOf b<k.half)(hpl:k.pend.length≤1000000):
 Calls Tryz.prog 108 #[.pointer (some ⟨vn,0,none⟩),.pointer (some ⟨vb,0,none⟩),.pointer (some ⟨vl,0,none⟩)] w fun e w'=>e=.returned (.int .i64 (k.add1 num nxt b).1)∧DkTo M F w d (k.add1 num nxt b).2 w':=by
 obtain⟨s,hs1,hs2,hs3⟩:=h.ok.secs
 have hhalf:=k.half_le
 obtain⟨rfl,hbc,_⟩:=hb.sl_len
 have hby:=hb.ints
 have hsec:b.length≤64*secsOf b∧64*secsOf b≤b.length+63:=by unfold secsOf;omega
 refine add1_vc ⟨hvn,hvb,hvl,hl⟩ hnd (by intro x hx;exact h.mlt x (hM x hx)) ⟨fun vs w'=>∃(i:Nat),∃k' F',vs=[.int .i64 (i:Int)]∧i≤secsOf b∧DkAt M w' d k' F'∧Own F w F' w'∧k'.n=k.n∧k'.pend.length≤1000000+i∧
  Dk.add1L (k.base num+nxt+1) b (secsOf b - i) i k'=k.add1 num nxt b,
  fun vs _=>match vs with|[.int _ i]=>secsOf b - i.toNat|_=>0,fun _=>⟨0,k,F,rfl,by omega,h,Own.refl _ _,rfl,by omega,rfl⟩,?_⟩
 rintro n1 w1 ⟨i,k1,F1,hv,hi,hD1,hO1,hn1,hp1,he1⟩
 simp only[List.cons.injEq,Value.int.injEq,true_and,and_true]at hv
 subst hv
 have hout:∀{wa:World} {F2:List Nat} {k2:Dk},DkAt M wa d k2 F2→NotIn vn F2∧NotIn vb F2∧NotIn vl F2∧NotIn l F2:=fun hD=>⟨hD.out (hM vn (by simp)),hD.out (hM vb (by simp)),hD.out (hM vl (by simp)),hD.out (hM l (by simp))⟩
 constructor
 ·intro hlt hkn
  refine ev_make ez5 (by omega) (by omega) (by omega) fun w2 hb2 hk2=>⟨_,_,_,rfl,_,hk2,⟨⟨by simp⟩,⟨by simp⟩,⟨by simp⟩,⟨by simp⟩⟩,ini_i64.2 (by omega),_,_,_,pv_slice elB33 (l:=i*64) (h:=b.length) (.inl (by congr 2)) (.inr ⟨rfl,rfl⟩) (by omega) (by omega),fun hkn2=>?_⟩
  have hb1:R (tSl (tI .u8)) (F1++[]) w1 b [.slice ba b.length bc]:=hO1.data (by simpa using hb)
  have hRs:=(hb1.kp0 hk2).sub (i*64) b.length (by omega) (Nat.le_refl _)
  refine ev_copy elB33 (arr:=List.replicate 64 (Value.int .u8 0)) hb2 (by show 0+64*1≤(List.replicate 64 (Value.int .u8 0)).length;simp) hRs fun w3 ly hfl hb3 hk3=>⟨_,rfl,_,hk3,?_,ini_i64.2 (by omega),ini_i64.2 (by omega),fun w4 hk4 hkn4=>?_⟩
  ·have hlt':∀x∈M,x≠w1.heap.size:=fun x hx he=>by have:=hD1.mlt x hx;omega
   exact⟨⟨by simpa using hlt' vn (hM vn (by simp))⟩,⟨by simpa using hlt' vb (hM vb (by simp))⟩,⟨by simpa using hlt' vl (hM vl (by simp))⟩,⟨by simpa using hlt' l (hM l (by simp))⟩⟩
  have hly:=flat_int hfl
  subst hly
  replace hb3:w3.heap[w1.heap.size]?=some (.cells ((part_ b i).map (Value.int .u8)++[]).toArray 5 (0,0)):=by
   rw[←part_copy (b:=b) (i:=i) rfl]
   exact hb3
  have hk14:KpL [] w1 w4:=(hk2.more hk3 (by simp)).trans hk4
  have hD4:=hD1.kp0 hk14
  have hO4:=hO1.kp0 hk14
  refine⟨(lAt_ok hD4 hkn4.2.2.2 (by omega) hnum (i:=nxt+1+i) (by omega) (by omega)).mono ?_⟩
  rintro e w5 ⟨rfl,hk5⟩
  have hb1':=Dk.base_n hn1 num
  have ebi:((k1.base num:Nat):Int)+((nxt:Int)+1+(i:Int))=((k.base num+nxt+1+i:Nat):Int):=by omega
  rw[ebi]
  refine⟨_,rfl,hk5,fun hkn5=>?_⟩
  have hD5:=hD4.kp0 hk5
  have hRp:R (tSl (tI .u8)) (F1++[]) w5 (part_ b i) [.slice (some ⟨w1.heap.size,0,none⟩) 64 64]:=by
   have hb5:=((hk4.trans hk5).blk _ (block_lt hb3) (by simp)).trans hb3
   have:=R.ofBlk (M:=F1++[]) (c:=64) hb5 (fun hm=>by rw[List.append_nil]at hm;have:=(hD1.own_lt _ hm).1;omega) (part_by hby i) (Nat.le_of_eq (part_len b i)) (by rw[part_len];decide)
   rwa [part_len]at this
  have hbl:=Dk.base_le (k:=k) (num:=num) (by omega) (i:=nxt+1+i) (by omega)
  refine⟨(dWrite_ok hD5 (by omega) (i:=k.base num+nxt+1+i) (by obtain⟨s,g1,g2,g3⟩:=hD5.ok.secs;omega) hRp).mono ?_⟩
  rintro e w6 ⟨rfl,F6,hD6,hO6⟩
  have e1:secsOf b - i=(secsOf b - (i+1))+1:=by omega
  rw[e1,Dk.add1L]at he1
  refine⟨_,rfl,_,hO6.kp,hout hD5,fun hne _=>?_,fun hz=>⟨ini_i64.2 (by omega),fun _=>⟨⟨i+1,_,F6,by simp,by omega,hD6,(hO4.kp0 hk5).trans hO6,(Dk.write_n _ _ _).trans hn1,?_,?_⟩,?_⟩⟩⟩
  ·rw[if_pos hne]at he1
   rw[←he1]
   exact⟨rfl,F6,hD6,(hO4.kp0 hk5).trans hO6⟩
  ·have:=Dk.write_pend k1 (k.base num+nxt+1+i) (part_ b i);omega
  ·rw[if_neg hz]at he1;exact he1
  ·show secsOf b - ((i:Int)+1).toNat<secsOf b - (i:Int).toNat
   omega
 ·intro hge hkn
  have e1:secsOf b - i=0:=by omega
  rw[e1,Dk.add1L]at he1
  refine⟨(dSync_ok hD1 (by omega)).mono ?_⟩
  rintro e w3 ⟨rfl,F3,hD3,hO3⟩
  refine⟨_,rfl,_,hO3.kp,hout hD1,fun _=>?_⟩
  rw[←he1]
  exact⟨rfl,F3,hD3,hO1.trans hO3⟩
theorem add2_ok{M F:List Nat}{w:World}{d l vl vh:Nat}{k:Dk}{num:Int}{nxt:Nat}{b:List Int}{ba:Option Addr}{bc:Nat}(h:DkAt M w d k F)(hl:LogAt w l d num nxt)
 (hvl:w.heap[vl]?=some (.cells #[.pointer (some ⟨l,0,none⟩)] 113 (0,0)))(hvh:w.heap[vh]?=some (.cells #[.slice ba 64 bc] 33 (0,0)))
 (hnd:[vl,vh,l].Nodup)(hM:∀x∈[vl,vh,l],x∈M)(hb:R (tSl (tI .u8)) F w b [.slice ba 64 bc])(h2:2≤k.n)(hnum:0≤num)(hfit:nxt<k.half)(hpl:k.pend.length≤2000000):
 Calls Tryz.prog 110 #[.pointer (some ⟨vl,0,none⟩),.pointer (some ⟨vh,0,none⟩)] w fun e w'=>e=.returned (.int .i64 (k.write (k.base num+nxt) b).1)∧DkTo M F w d (k.write (k.base num+nxt) b).2 w':=by
 obtain⟨s,hs1,hs2,hs3⟩:=h.ok.secs
 have hhalf:=k.half_le
 refine add2_vc ⟨hvl,hvh,hl⟩ hnd (by intro x hx;exact h.mlt x (hM x hx)) fun w1 hk1 hl1=>⟨(lAt_ok (h.kp0 hk1) hl1 h2 hnum (i:=nxt) (by omega) (by omega)).mono ?_⟩
 rintro e w2 ⟨rfl,hk2⟩
 have hk12:=hk1.trans hk2
 have hbl:=Dk.base_le (k:=k) (num:=num) (by omega) (i:=nxt) (by omega)
 have ebi:((k.base num:Nat):Int)+(nxt:Int)=((k.base num+nxt:Nat):Int):=by omega
 rw[ebi]
 refine⟨_,rfl,hk2,⟨(dWrite_ok (h.kp0 hk12) (by omega) (i:=k.base num+nxt) (by omega) (Mb:=[]) (by simpa using hb.kp0 hk12)).mono ?_⟩⟩
 rintro e w3 ⟨rfl,F3,hD3,hO3⟩
 exact⟨_,rfl,_,hO3.kp,⟨h.out (hM vl (by simp)),h.out (hM vh (by simp)),h.out (hM l (by simp))⟩,rfl,F3,hD3,(Own.of0 hk12).trans hO3⟩
end Go.Vc
namespace Go.Vc
open Go Go.Proofs
theorem st1{w:World}{b i T:Nat}{arr:List Value}{v:Value}(h:w.heap[b]?=some (.cells arr.toArray T (0,0)))(hi:i<arr.length):
 (∃l,LdA w ((⟨b,0,none⟩:Addr).add (i*1)) l∧l.length=1)∧NotFrozen w ((⟨b,0,none⟩:Addr).add (i*1)) 1∧((⟨b,0,none⟩:Addr).add (i*1)).block=b∧
 (stA w ((⟨b,0,none⟩:Addr).add (i*1)) [v] 0).heap[b]?=some (.cells (arr.set i v).toArray T (0,0))∧KpL [b] w (stA w ((⟨b,0,none⟩:Addr).add (i*1)) [v] 0):=by
 rw[add_lit,Nat.zero_add,Nat.mul_one]
 refine⟨⟨[arr[i]],ldA_blk h _ _ ?_,rfl⟩,notFrozen h,rfl,?_,stA_kp w ⟨b,i,none⟩ _⟩
 ·apply List.ext_getElem?
  intro j
  cases j with
  |zero=>simp[hi]
  |succ j=>simp;omega
 ·rw[stA_ld h (by simp;omega),List.set_eq_take_append_cons_drop,if_pos hi]
  rfl
def LogTo(M F:List Nat)(w:World)(l d:Nat)(num nxt:Int)(k:Dk)(w':World):Prop :=
 ∃F',DkAt M w' d k F'∧Own (l::F) w (l::F') w'∧LogAt w' l d num nxt
theorem headOf_eq(q:Int)(n:Nat)(c1 c2 c3:Int)(h1:c1=((n / 65536%256:Nat):Int))(h2:c2=((n / 256%256:Nat):Int))(h3:c3=((n%256:Nat):Int)):
 (((((List.replicate (64:Int).toNat (Value.int .u8 0)).set (0:Int).toNat (.int .u8 q)).set (63:Int).toNat (.int .u8 q)).set (1:Int).toNat (.int .u8 c1)).set (2:Int).toNat (.int .u8 c2)).set (3:Int).toNat (.int .u8 c3)=(headOf q n).map (Value.int .u8)++[]:=by
 subst h1 h2 h3
 rfl
theorem headOf_by{q:Int}(hq:InI .u8 q)(n:Nat):Byts (headOf q n):=by
 intro x hx
 simp only[headOf,List.mem_cons,List.mem_append,List.mem_replicate,List.not_mem_nil,or_false]at hx
 rcases hx with rfl|rfl|rfl|rfl|⟨_,rfl⟩|rfl
 ·exact hq
 ·exact ini_u8.2 (by omega)
 ·exact ini_u8.2 (by omega)
 ·exact ini_u8.2 (by omega)
 ·exact ini_u8.2 (by omega)
 ·exact hq
set_option maxHeartbeats 2000000 in
theorem lAdd_ok{M F:List Nat}{w:World}{d l:Nat}{k:Dk}{num:Int}{nxt:Nat}{q:Int}{b:List Int}{ba:Option Addr}{bl bc:Nat}(h:DkAt M w d k F)(hl:LogAt w l d num nxt)(hlM:l∈M)
 (hb:R (tSl (tI .u8)) (l::F) w b [.slice ba bl bc])(hq:InI .u8 q)(h2:2≤k.n)(hnum:0≤num)(hfit:nxt+secsOf b<k.half)(hpl:k.pend.length≤900000)(hps:(k.add1 num nxt b).2.pend.length≤1000000)
 (hps2:((k.add1 num nxt b).2.write (k.base num+nxt) (headOf q b.length)).2.pend.length≤1000000):
 Calls Tryz.prog 52 #[.pointer (some ⟨l,0,none⟩),.int .u8 q,.slice ba bl bc] w fun e w'=>e=.returned (.int .i64 (k.add num nxt q b).1)∧
  LogTo M F w l d num (if (k.add num nxt q b).1=0 then nxt+1+secsOf b else nxt:Nat) (k.add num nxt q b).2 w':=by
 obtain⟨s,hs1,hs2,hs3⟩:=h.ok.secs
 have hhalf:=k.half_le
 obtain⟨rfl,hbc,_⟩:=hb.sl_len
 have hsec:b.length≤64*secsOf b∧64*secsOf b≤b.length+63:=by unfold secsOf;omega
 have hll:=block_lt hl
 have en:IntKind.i64.wrap (Int.tdiv ((b.length:Int)+64 - 1) 64)=(secsOf b:Int):=by
  rw[Int.tdiv_eq_ediv_of_nonneg (by omega)]
  have:((b.length:Int)+64 - 1) / 64=(secsOf b:Int):=by unfold secsOf;omega
  rw[this]
  exact wrap_in (ini_i64.2 (by omega))
 have hlF:l∉F:=fun hm=>(h.own_lt l hm).2 hlM
 refine lAdd_vc hl ?_
 rw[en]
 intro k1 hk1 k2 hk2
 refine⟨ini_i64.2 (by omega),ini_i64.2 (by omega),by omega,fun k3 hk3 w1 hw1 hkn1=>?_⟩
 refine ev_make ez5 (by omega) (by omega) (by omega) fun w2 hb2 hw2=>⟨_,_,_,rfl,_,hw2,⟨⟨by simp⟩,⟨by simp⟩,⟨by simp⟩,⟨by simp⟩⟩,fun k6 hk6=>?_⟩
 have l1:=block_lt hkn1.1
 have l2:=block_lt hkn1.2.1
 have l3:=block_lt hkn1.2.2.1
 have hs1':=hw1.size
 have hbh:=block_lt hb2
 have hlen:(List.replicate (64:Int).toNat (Value.int .u8 0)).length=64:=by simp
 generalize hH:w1.heap.size=H at *
 have nins:∀{x:Nat},x=H→NotIn k6 [x]∧NotIn k3 [x]∧NotIn k2 [x]∧NotIn k1 [x]∧NotIn l [x]:=by
  rintro x rfl
  refine⟨⟨?_⟩,⟨?_⟩,⟨?_⟩,⟨?_⟩,⟨?_⟩⟩<;>simp only[List.mem_singleton]<;>omega
 refine⟨_,rfl,by omega,by omega,fun w3 hw3 hkn3=>?_⟩
 have hb3:=(hw3.blk H hbh (by simp)).trans hb2
 obtain⟨s1,s2,s3,s4,s5⟩:=st1 (i:=(0:Int).toNat) (v:=.int .u8 q) hb3 (by rw[hlen];decide)
 refine⟨s1,s2,nins s3,?_⟩
 rintro w4 rfl
 intro hkn4
 refine⟨⟨ldA_blk hkn4.1 0 _ rfl,trivial⟩,_,rfl,by omega,by omega,fun _=>?_⟩
 obtain⟨t1,t2,t3,t4,t5⟩:=st1 (i:=(63:Int).toNat) (v:=.int .u8 q) s4 (by rw[List.length_set,hlen];decide)
 refine⟨t1,t2,nins t3,?_⟩
 rintro w5 rfl
 refine⟨_,rfl,by omega,by omega,fun w6 hw6 hkn6=>?_⟩
 have hb6:=(hw6.blk H (block_lt t4) (by simp)).trans t4
 obtain⟨u1,u2,u3,u4,u5⟩:=st1 (i:=(1:Int).toNat) (v:=.int .u8 (IntKind.u8.wrap ((b.length:Int).fdiv ((2 ^ 16:Nat):Int)))) hb6 (by rw[List.length_set,List.length_set,hlen];decide)
 refine⟨u1,u2,nins u3,?_⟩
 rintro w7 rfl
 intro hkn7
 refine⟨⟨ldA_blk hkn7.2.2.1 0 _ rfl,ldA_blk hkn7.2.2.1 0 _ rfl,ldA_blk hkn7.1 0 _ rfl,ldA_blk hkn7.1 0 _ rfl,trivial⟩,_,rfl,by omega,by omega,fun _=>?_⟩
 obtain⟨v1,v2,v3,v4,v5⟩:=st1 (i:=(2:Int).toNat) (v:=.int .u8 (IntKind.u8.wrap ((b.length:Int).fdiv ((2 ^ 8:Nat):Int)))) u4 (by rw[List.length_set,List.length_set,List.length_set,hlen];decide)
 refine⟨v1,v2,nins v3,?_⟩
 rintro w8 rfl
 intro hkn8
 refine⟨⟨ldA_blk hkn8.2.2.1 0 _ rfl,ldA_blk hkn8.1 0 _ rfl,trivial⟩,_,rfl,by omega,by omega,fun _=>?_⟩
 obtain⟨x1,x2,x3,x4,x5⟩:=st1 (i:=(3:Int).toNat) (v:=.int .u8 (IntKind.u8.wrap (b.length:Int))) v4 (by rw[List.length_set,List.length_set,List.length_set,List.length_set,hlen];decide)
 refine⟨x1,x2,nins x3,?_⟩
 intro w9 hw9 k7 hk7 w10 hw10 hkn10
 rw[←hw9]at x4 x5
 have hb10:w10.heap[H]?=some (.cells ((headOf q b.length).map (Value.int .u8)++[]).toArray 5 (0,0)):=by
  rw[hw10.blk H (block_lt x4) (by simp),x4,headOf_eq q b.length]
  ·rw[fdiv_pow,wrap_u8];omega
  ·rw[fdiv_pow,wrap_u8];omega
  ·rw[wrap_u8];omega
 have hkp:KpL [] w w10:=by
  have g:∀{a c:World},KpL [H] a c→w.heap.size≤H→KpL [] w a→KpL [] w c:=fun h1 h2 h3=>h3.more h1 (by intro x hx;simp at hx;exact .inr (by omega))
  have hwH:w.heap.size≤H:=hs1'
  exact(g x5 hwH (g v5 hwH (g u5 hwH ((g t5 hwH (g s5 hwH ((hw1.trans hw2).trans hw3))).trans hw6)))).trans hw10
 have hs9:H<w9.heap.size:=block_lt x4
 have hk6l:=block_lt hkn10.2.1
 have hk7l:=block_lt hkn10.1
 have hk6':k6<w9.heap.size:=by
  have:=block_lt hkn8.1
  have:=x5.size
  omega
 have hHF:∀x∈[k7,k6,k3,k2,k1],w.heap.size≤x∧x<w10.heap.size:=by
  have:=hw10.size
  have:=hw2.size
  intro x hx
  simp only[List.mem_cons,List.not_mem_nil,or_false]at hx
  rcases hx with rfl|rfl|rfl|rfl|rfl<;>omega
 have hD:=h.news hkp hHF
 have hbd:R (tSl (tI .u8)) F w10 b [.slice ba b.length bc]:=(hb.weak (by intro x hx;simp[hx])).kp0 hkp
 refine⟨(all_ok (b:=k7) (fs:=[(108,#[],#[.pointer (some ⟨k3,0,none⟩),.pointer (some ⟨k2,0,none⟩),.pointer (some ⟨k1,0,none⟩)]),(110,#[],#[.pointer (some ⟨k1,0,none⟩),.pointer (some ⟨k6,0,none⟩)]),(37,#[.pointer (some ⟨d,0,none⟩)],#[])])
  (T:=49) hkn10.1 (by simp) (c:=3) (R:=fun e w'=>∃n1,e=.returned (.int .i64 n1)∧n1=(k.add num nxt q b).1∧DkTo ([k7,k6,k3,k2,k1]++M) F w10 d (k.add num nxt q b).2 w') ?_).mono ?_⟩
 ·
  have hM:∀x∈[k7,k6,k3,k2,k1,l],x∈[k7,k6,k3,k2,k1]++M:=by
   intro x hx
   simp only[List.mem_cons,List.not_mem_nil,or_false]at hx
   rcases hx with rfl|rfl|rfl|rfl|rfl|rfl<;>simp[hlM]
  have hdis:k3≠k2∧k3≠k1∧k2≠k1:=by
   have e3:_=_:=hkn10.2.2.1
   have e2:_=_:=hkn10.2.2.2.1
   have e1:_=_:=hkn10.2.2.2.2.1
   refine⟨?_,?_,?_⟩
   ·rintro rfl;rw[e3]at e2;simp at e2
   ·rintro rfl;rw[e3]at e1;simp at e1
   ·rintro rfl;rw[e2]at e1;simp at e1
  have hs2':=hw2.size
  refine⟨⟨_,_,Tryz.func108,rfl⟩,⟨(add1_ok hD hkn10.2.2.2.2.2 hkn10.2.2.1 hkn10.2.2.2.1 hkn10.2.2.2.2.1 (by simp;omega) (fun x hx=>hM x (by simp at hx ⊢;omega)) hbd h2 hnum hfit (by omega)).mono ?_⟩⟩
  rintro e wa ⟨rfl,Fa,hDa,hOa⟩
  refine⟨_,_,rfl,hOa.kp,hD.out (by simp),fun hne=>⟨_,rfl,?_,?_⟩,fun hz=>?_⟩
  ·unfold Dk.add;rw[if_pos hne]
  ·unfold Dk.add;rw[if_pos hne];exact⟨Fa,hDa,hOa⟩
  have hna:(k.add1 num nxt b).2.n=k.n:=Dk.add1L_n _ _ _ _ _
  have hka:∀{x:Nat},x∈[k7,k6,k3,k2,k1,l]→x<w10.heap.size→wa.heap[x]?=w10.heap[x]?:=fun hx hlt=>hOa.kp.blk _ hlt (hD.out (hM _ hx)).no
  have hRh:R (tSl (tI .u8)) Fa wa (headOf q b.length) [.slice (some ⟨H,0,none⟩) 64 64]:=by
   have hHf:H∉F:=fun hm=>by have:=(h.own_lt H hm).1;omega
   have hR0:R (tSl (tI .u8)) (F++[]) w10 (headOf q b.length) [.slice (some ⟨H,0,none⟩) 64 64]:=R.ofBlk (bs:=headOf q b.length) (c:=64) hb10 (by simpa using hHf) (headOf_by hq _) (by simp[headOf]) (by simp[headOf,maxSl])
   exact(hOa.data hR0).weak (by intro x hx;simp[hx])
  have hba:=Dk.base_n hna num
  have hha:=Dk.half_n hna
  refine⟨⟨_,_,Tryz.func110,rfl⟩,⟨(add2_ok hDa (num:=num) (nxt:=nxt) (l:=l) (vl:=k1) (vh:=k6) ((hka (by simp) (block_lt hkn10.2.2.2.2.2)).trans hkn10.2.2.2.2.2) ((hka (by simp) (block_lt hkn10.2.2.2.2.1)).trans hkn10.2.2.2.2.1) ((hka (by simp) hk6l).trans hkn10.2.1)
   (by simp;omega) (fun x hx=>hM x (by simp at hx ⊢;omega)) hRh (by omega) hnum (by omega) (by omega)).mono ?_⟩⟩
  rw[hba]
  rintro e wb ⟨rfl,Fb,hDb,hOb⟩
  refine⟨_,_,rfl,hOb.kp,hDa.out (by simp),fun hne=>⟨_,rfl,?_,?_⟩,fun hz2=>?_⟩
  ·unfold Dk.add;rw[if_neg (by simp[hz]),if_pos hne]
  ·unfold Dk.add;rw[if_neg (by simp[hz]),if_pos hne];exact⟨Fb,hDb,hOa.trans hOb⟩
  refine⟨⟨_,_,Tryz.func37,rfl⟩,⟨(dSync_ok hDb (by omega)).mono ?_⟩⟩
  rintro e wc ⟨rfl,Fc,hDc,hOc⟩
  have hfin:k.add num nxt q b=((k.add1 num nxt b).2.write (k.base num+nxt) (headOf q b.length)).2.sync:=by
   unfold Dk.add;rw[if_neg (by simp[hz]),if_neg (by simp[hz2])]
  refine⟨_,_,rfl,hOc.kp,hDb.out (by simp),fun hne=>⟨_,rfl,by rw[hfin],by rw[hfin];exact⟨Fc,hDc,(hOa.trans hOb).trans hOc⟩⟩,fun hz3=>?_⟩
  exact⟨_,rfl,by rw[hfin,hz3],by rw[hfin];exact⟨Fc,hDc,(hOa.trans hOb).trans hOc⟩⟩
 ·rintro e w11 ⟨n1,rfl,hn1,F',hD',hO'⟩
  subst hn1
  have hl11:LogAt w11 l d num nxt:=LogAt.keep hkn10.2.2.2.2.2 hO'.kp hlF
  have hOw:Own F w F' w11:=(Own.of0 hkp).trans hO'
  refine⟨_,rfl,F,hO'.kp,⟨hD.out (by simp),hD.out (by simp),hD.out (by simp),hD.out (by simp),⟨hlF⟩⟩,fun hz=>⟨ini_i64.2 (by omega),ini_i64.2 (by omega),fun w12 hw12 hkn12=>⟨rfl,?_⟩⟩,fun hne _=>⟨rfl,?_⟩⟩
  ·refine⟨F',(hD'.weak (fun x hx=>List.mem_append_right _ hx)).step hw12 (by simpa using hlM) (fun x hx=>⟨.inl hx,?_⟩),⟨?_,?_⟩,?_⟩
   ·have:=hD'.mlt x (List.mem_append_right _ hx);have:=hw12.size;omega
   ·exact(hOw.kp.mono (by intro x hx;simp[hx])).trans (hw12.mono (by simp))
   ·intro x hx
    rcases List.mem_cons.1 hx with rfl|hx
    ·simp
    ·exact(hOw.new x hx).imp (fun h=>by simp[h]) id
   ·rw[if_pos hz]
    have:=hkn12.2.2.2.2
    unfold LogAt
    rw[this]
    have e:(nxt:Int)+(1+(secsOf b:Int))=((nxt+1+secsOf b:Nat):Int):=by omega
    rw[e]
  ·refine⟨F',hD'.weak (fun x hx=>List.mem_append_right _ hx),⟨hOw.kp.mono (by intro x hx;simp[hx]),?_⟩,by rw[if_neg hne];exact hl11⟩
   intro x hx
   rcases List.mem_cons.1 hx with rfl|hx
   ·simp
   ·exact(hOw.new x hx).imp (fun h=>by simp[h]) id
end Go.Vc
namespace Go.Vc
open Go Go.Proofs
theorem or_nat{x y:Nat}(hx:x<2 ^ 62)(hy:y<2 ^ 62):bitsI .or .i64 (x:Int) (y:Int)=((x ||| y:Nat):Int):=by
 have h1:(BitVec.ofInt 64 (x:Int) ||| BitVec.ofInt 64 (y:Int)).toNat=x ||| y:=by
  rw[BitVec.toNat_or,BitVec.toNat_ofInt,BitVec.toNat_ofInt]
  congr 1<;>omega
 have h2:x ||| y<2 ^ 62:=Nat.or_lt_two_pow hx hy
 show IntKind.i64.wrap (((BitVec.ofInt 64 (x:Int) ||| BitVec.ofInt 64 (y:Int)).toNat:Nat):Int)=_
 rw[h1]
 exact wrap_in (ini_i64.2 (by omega))
theorem or_bytes{a b c:Int}(ha:InI .u8 a)(hb:InI .u8 b)(hc:InI .u8 c):
 bitsI .or .i64 (bitsI .or .i64 (IntKind.i64.wrap (a*((2 ^ 16:Nat):Int))) (IntKind.i64.wrap (b*((2 ^ 8:Nat):Int)))) c=a*65536+b*256+c:=by
 rw[ini_u8]at ha hb hc
 obtain⟨x,rfl⟩:∃x:Nat,a=x:=⟨a.toNat,by omega⟩
 obtain⟨y,rfl⟩:∃x:Nat,b=x:=⟨b.toNat,by omega⟩
 obtain⟨z,rfl⟩:∃x:Nat,c=x:=⟨c.toNat,by omega⟩
 rw[wrap_in (ini_i64.2 (by omega)),wrap_in (ini_i64.2 (by omega))]
 have e1:(x:Int)*((2 ^ 16:Nat):Int)=((2 ^ 16*x:Nat):Int):=by omega
 have e2:(y:Int)*((2 ^ 8:Nat):Int)=((2 ^ 8*y:Nat):Int):=by omega
 rw[e1,e2,or_nat (by omega) (by omega),←Nat.two_pow_add_eq_or_of_lt (i:=16) (b:=2 ^ 8*y) (by omega) x,or_nat (by omega) (by omega)]
 have e3:2 ^ 16*x+2 ^ 8*y=2 ^ 8*(256*x+y):=by omega
 rw[e3,←Nat.two_pow_add_eq_or_of_lt (i:=8) (b:=z) (by omega)]
 omega
def recSize(h:List Int):Nat:=(h.getD 1 0*65536+h.getD 2 0*256+h.getD 3 0).toNat
def Dk.partsOf(k:Dk)(at0:Nat):Nat→List Int
 |0=>[]
 |n+1=>Dk.partsOf k at0 n++secOf k.now (at0+n)
def Dk.readRec(k:Dk)(num:Int)(i:Nat):Int×List Int×Nat×Int :=
 if k.half≤i then (0,[],0,0)
 else if k.readE (k.base num+i:Nat)≠0 then (0,[],0,k.readE (k.base num+i:Nat))
 else if (secOf k.now (k.base num+i)).getD 0 0≠(secOf k.now (k.base num+i)).getD 63 0 then (0,[],0,0)
 else if k.half≤i+(recSize (secOf k.now (k.base num+i))+63) / 64 then (0,[],0,0)
 else ((secOf k.now (k.base num+i)).getD 0 0,(k.partsOf (k.base num+i+1) ((recSize (secOf k.now (k.base num+i))+63) / 64)).take (recSize (secOf k.now (k.base num+i))),
  i+1+(recSize (secOf k.now (k.base num+i))+63) / 64,0)
theorem Dk.partsOf_len{k:Dk}{at0:Nat}:∀{n:Nat},(at0+n)*64≤k.now.length→(k.partsOf at0 n).length=64*n
 |0,_=>rfl
 |n+1,h=>by
  rw[Dk.partsOf,List.length_append,Dk.partsOf_len (by omega),secOf_len (by omega)]
  omega
theorem getD_get{l:List Int}{i:Nat}(h:i<l.length):l.getD i 0=l[i]:=by simp[h]
theorem AccC.wide{α:Type}{e:Ty α}{M:List Nat}{w0 w1 w:World}{xs:List α}{a:Option Addr}{n c:Nat}(h:AccC e M w1 none xs a n c w)(k:KpL [] w0 w1):AccC e M w0 none xs a n c w :=
 ⟨h.acc,k.trans h.kp,fun b hb=>.inr (by
   have:=k.size
   rcases h.own b hb with h1|h1
   ·simp[blkL]at h1
   ·omega)⟩
set_option maxHeartbeats 2000000 in
theorem lRead_ok{M F N:List Nat}{w:World}{d l:Nat}{k:Dk}{num nxt:Int}(h:DkAt M w d k F)(hl:LogAt w l d num nxt)(h2:2≤k.n)(hnum:0≤num)(hN:∀b∈N,b<w.heap.size){i:Nat}(hi:i≤100000):
 Calls Tryz.prog 64 #[.pointer (some ⟨l,0,none⟩),.int .i64 i] w fun e w'=>∃a n c,e=.returned (.tuple #[.int .u8 (k.readRec num i).1,.slice a n c,.int .i64 (k.readRec num i).2.2.1,.int .i64 (k.readRec num i).2.2.2])∧KpL [] w w'∧
  R (tSl (tI .u8)) N w' (k.readRec num i).2.1 [.slice a n c]:=by
 obtain⟨s,hs1,hs2,hs3⟩:=h.ok.secs
 have hhalf:=k.half_le
 have hnil:∀(w':World),R (tSl (tI .u8)) N w' [] [.slice none 0 0]:=fun w'=>R.sl_nil _ _ _ _ _
 refine lRead_vc hl fun _=>⟨(dHalf_ok h h2).mono ?_⟩
 rintro e w1 ⟨rfl,hk1⟩
 refine⟨_,rfl,hk1,fun hge _=>?_,fun hlt w2 hk2 hl2=>?_⟩
 ·have e1:k.readRec num i=(0,[],0,0):=by unfold Dk.readRec;rw[if_pos (by omega)]
  rw[e1]
  exact⟨_,_,_,rfl,hk1,hnil _⟩
 have hbl:=Dk.base_le (k:=k) (num:=num) (by omega) (i:=i) (by omega)
 have hk02:=hk1.trans hk2
 refine⟨(lAt_ok (h.kp0 hk02) hl2 h2 hnum (i:=i) (by omega) (by omega)).mono ?_⟩
 rintro e w3 ⟨rfl,hk3⟩
 have hk03:=hk02.trans hk3
 have ebi:((k.base num:Nat):Int)+(i:Int)=((k.base num+i:Nat):Int):=by omega
 rw[ebi]
 refine⟨_,rfl,hk3,fun hl3=>⟨(dRead_ok (h.kp0 hk03) (N:=[]) (by simp) _).mono ?_⟩⟩
 rintro e w4 ⟨a,n,c,rfl,hk4,hR⟩
 have hk04:=hk03.trans hk4
 refine⟨_,_,_,_,rfl,hk4,fun hne _=>?_,fun hz=>?_⟩
 ·have e1:k.readRec num i=(0,[],0,k.readE (k.base num+i:Nat)):=by unfold Dk.readRec;rw[if_neg (by omega),if_pos hne]
  rw[e1]
  exact⟨_,_,_,rfl,hk04,hnil _⟩
 have hz':=Classical.not_not.1 hz
 have hC:=hR hz'
 rw[Int.toNat_natCast]at hC
 have hsl:(secOf k.now (k.base num+i)).length=64:=secOf_len (by omega)
 have hn64:n=64:=by rw[hC.acc.len,hsl]
 subst hn64
 have hmx:maxSl=140737488355328:=rfl
 have hRh:=hC.acc.done (by omega)
 generalize hHD:secOf k.now (k.base num+i)=hd at *
 have get:∀{j:Nat} {w':World},j<64→KpL [] w4 w'→∃ad,a=some ad∧LdA w' (ad.add (j*1)) [.int .u8 (hd.getD j 0)]∧InI .u8 (hd.getD j 0):=by
  intro j w' hj hk
  obtain⟨ad,cs,h1,hv,hld,_,_⟩:=(hRh.kp0 hk).sl_get (i:=j) (by omega)
  obtain⟨rfl,hin⟩:=hv.intD
  rw[getD_get (by omega)]
  exact⟨ad,h1,hld,hin⟩
 obtain⟨ad,rfl,g0,i0⟩:=get (j:=(0:Int).toNat) (by decide) (KpL.refl [] w4)
 obtain⟨ad',h63,g63,i63⟩:=get (j:=(63:Int).toNat) (by decide) (KpL.refl [] w4)
 obtain⟨ad1,h1',g1,i1⟩:=get (j:=(1:Int).toNat) (by decide) (KpL.refl [] w4)
 obtain⟨ad2,h2',g2,i2⟩:=get (j:=(2:Int).toNat) (by decide) (KpL.refl [] w4)
 obtain⟨ad3,h3',g3,i3⟩:=get (j:=(3:Int).toNat) (by decide) (KpL.refl [] w4)
 simp only[Option.some.injEq]at h63 h1' h2' h3'
 subst h63 h1' h2' h3'
 refine⟨ad,rfl,by omega,by omega,_,g0,ad,rfl,by omega,by omega,_,g63,fun hne w5 hk5 _=>?_,fun heq=>?_⟩
 ·have e1:k.readRec num i=(0,[],0,0):=by unfold Dk.readRec;rw[if_neg (by omega),if_neg hz,hHD,if_pos (show hd.getD 0 0≠hd.getD 63 0 from hne)]
  rw[e1]
  exact⟨_,_,_,rfl,hk04.trans hk5,hnil _⟩
 refine⟨ad,rfl,by omega,by omega,_,g1,ini_i64.2 (by rw[ini_u8]at i1;omega),ad,rfl,by omega,by omega,_,g2,ini_i64.2 (by rw[ini_u8]at i2;omega),ad,rfl,by omega,by omega,_,g3,ini_i64.2 (by rw[ini_u8]at i3;omega),?_⟩
 rw[or_bytes i1 i2 i3]
 have hsz:hd.getD (1:Int).toNat 0*65536+hd.getD (2:Int).toNat 0*256+hd.getD (3:Int).toNat 0=(recSize hd:Int):=by
  have:recSize hd=(hd.getD 1 0*65536+hd.getD 2 0*256+hd.getD 3 0).toNat:=rfl
  rw[this]
  rw[ini_u8]at i1 i2 i3
  rw[Int.toNat_of_nonneg]
  ·rfl
  ·have e1:hd.getD (1:Int).toNat 0=hd.getD 1 0:=rfl
   have e2:hd.getD (2:Int).toNat 0=hd.getD 2 0:=rfl
   have e3:hd.getD (3:Int).toNat 0=hd.getD 3 0:=rfl
   rw[e1]at i1;rw[e2]at i2;rw[e3]at i3
   omega
 have hszl:recSize hd<16777216:=by
  rw[ini_u8]at i1 i2 i3
  omega
 rw[hsz]
 have en:IntKind.i64.wrap (Int.tdiv ((recSize hd:Int)+64 - 1) 64)=(((recSize hd+63) / 64:Nat):Int):=by
  rw[Int.tdiv_eq_ediv_of_nonneg (by omega)]
  have:((recSize hd:Int)+64 - 1) / 64=(((recSize hd+63) / 64:Nat):Int):=by omega
  rw[this]
  exact wrap_in (ini_i64.2 (by omega))
 rw[en]
 generalize hnn:(recSize hd+63) / 64=nn at *
 refine⟨ini_i64.2 (by omega),ini_i64.2 (by omega),by omega,ini_i64.2 (by omega),fun w6 hk6 hl6=>⟨(dHalf_ok (h.kp0 (hk04.trans hk6)) h2).mono ?_⟩⟩
 rintro e w7 ⟨rfl,hk7⟩
 have hk07:=(hk04.trans hk6).trans hk7
 refine⟨_,rfl,hk7,fun hge _=>?_,fun hlt2=>?_⟩
 ·have e1:k.readRec num i=(0,[],0,0):=by unfold Dk.readRec;rw[if_neg (by omega),if_neg hz,hHD,if_neg (show ¬(hd.getD 0 0≠hd.getD 63 0) from heq),hnn,if_pos (by omega)]
  rw[e1]
  exact⟨_,_,_,rfl,hk07,hnil _⟩
 have hdn:k.down=false:=by
  unfold Dk.readE at hz'
  split at hz'
  ·omega
  ·split at hz'
   ·omega
   ·rename_i hd;simpa using hd
 have e1:k.readRec num i=(hd.getD 0 0,(k.partsOf (k.base num+i+1) nn).take (recSize hd),i+1+nn,0):=by
  unfold Dk.readRec;rw[if_neg (by omega),if_neg hz,hHD,if_neg (show ¬(hd.getD 0 0≠hd.getD 63 0) from heq),hnn,if_neg (by omega)]
 have hbl2:=Dk.base_le (k:=k) (num:=num) (by omega) (i:=i+nn) (by omega)
 have hNl:∀{w':World},KpL [] w w'→∀b∈N,b<w'.heap.size:=fun hk b hb=>Nat.lt_of_lt_of_le (hN b hb) hk.size
 refine⟨fun vs w'=>∃(j:Nat),∃a2 n2 c2,vs=[.slice a2 n2 c2,.int .i64 (j:Int)]∧j≤nn∧KpL [] w7 w'∧LogAt w' l d num nxt∧AccC (tI .u8) N w7 none (k.partsOf (k.base num+i+1) j) a2 n2 c2 w',
  fun vs _=>match vs with|[_,.int _ j]=>nn - j.toNat|_=>0,fun hl7=>⟨0,_,_,_,rfl,by omega,KpL.refl _ _,hl7,⟨Acc.nil' _ (hNl hk07),KpL.refl _ _,by simp[blkL]⟩⟩,?_⟩
 rintro a2 k3 k4 n10 w8 ⟨j,_,_,_,hv,hj,hk8,hl8,hC8⟩
 simp only[List.cons.injEq,Value.slice.injEq,Value.int.injEq,true_and,and_true]at hv
 obtain⟨⟨rfl,rfl,rfl⟩,rfl⟩:=hv
 have hk08:=hk07.trans hk8
 have hlen8:=hC8.acc.len
 rw[Dk.partsOf_len (by omega)]at hlen8
 constructor
 ·intro hlt3
  refine⟨ini_i64.2 (by omega),ini_i64.2 (by omega),fun w9 hk9 hl9=>⟨(lAt_ok (h.kp0 (hk08.trans hk9)) hl9 h2 hnum (i:=i+1+j) (by omega) (by omega)).mono ?_⟩⟩
  rintro e w10 ⟨rfl,hk10⟩
  have hk010:=(hk08.trans hk9).trans hk10
  have ebj:((k.base num:Nat):Int)+((i:Int)+1+(j:Int))=((k.base num+i+1+j:Nat):Int):=by omega
  rw[ebj]
  have hre:k.readE ((k.base num+i+1+j:Nat):Int)=0:=by
   unfold Dk.readE
   rw[if_neg (by unfold Dk.secs;omega),if_neg (by simp[hdn])]
  refine⟨_,rfl,hk10,fun hl10=>⟨(dRead_ok (h.kp0 hk010) (N:=[]) (by simp) _).mono ?_⟩⟩
  rintro e w11 ⟨a3,n3,c3,rfl,hk11,hR11⟩
  refine⟨_,_,_,_,rfl,hk11,fun hne=>absurd hre hne,fun _ hl11=>?_⟩
  have hC11:=hR11 hre
  rw[Int.toNat_natCast]at hC11
  have hn3:n3=64:=by rw[hC11.acc.len];exact secOf_len (by omega)
  have hk811:=(hk9.trans hk10).trans hk11
  have hC8':=hC8.kp0 hk811
  obtain⟨ly,hS⟩:=(hC11.acc.done (by omega)).srcsP (P:=Tryz.prog) (M':=blkL a2++N) plain_int (KpL.refl [] w11)
  refine ev_appendS byT hC8'.acc hS (by omega) fun a4 c4 w12 hC12=>⟨_,_,_,rfl,_,hC12.kp,⟨fun hm=>?_⟩,ini_i64.2 (by omega),fun hl12=>⟨⟨j+1,a4,k3+n3,c4,by simp,by omega,?_,hl12,?_⟩,?_⟩⟩
  ·rcases hC8'.own l hm with hm|hm
   ·simp[blkL]at hm
   ·have:=block_lt hl;have:=hk07.size;omega
  ·exact hC8'.kpn.more hC12.kp fun x hx=>(hC8'.own x hx).imp (by simp[blkL]) id
  ·exact hC8'.trans hC12
  ·show nn - ((j:Int)+1).toNat<nn - (j:Int).toNat
   omega
 ·intro hge3
  have hjn:j=nn:=by omega
  subst hjn
  obtain⟨_,he,g0',_⟩:=get (j:=(0:Int).toNat) (by decide) ((hk6.trans hk7).trans hk8)
  simp only[Option.some.injEq]at he
  subst he
  refine⟨ad,rfl,by omega,by omega,_,g0',_,_,_,pv_slice elB33 (l:=0) (h:=recSize hd) (.inr ⟨rfl,rfl⟩) (.inl rfl) (by omega) (by have:=hC8.acc.cap;omega),ini_i64.2 (by omega),ini_i64.2 (by omega),fun w13 hk13 _=>?_⟩
  rw[e1]
  have hRr:=(hC8.acc.done (by omega)).sub 0 (recSize hd) (by omega) (by omega)
  rw[List.drop_zero,Nat.sub_zero]at hRr
  refine⟨_,_,_,?_,hk08.trans hk13,hRr.kp0 hk13⟩
  have e2:(i:Int)+1+(j:Int)=((i+1+j:Nat):Int):=by omega
  rw[e2]
  rfl
end Go.Vc
namespace Go.Vc
open Go Go.Proofs
def nbyte(num:Int)(i:Nat):Int:=num / ((2 ^ (8*(7 - i)):Nat):Int)%256
def noteP(num:Int)(m:Nat):List Int:=(List.range 64).map fun j=>if j<m then nbyte num j else if 56≤j∧j<56+m then nbyte num (j - 56) else 0
def noteOf(num:Int):List Int:=noteP num 8
def Dk.note(k:Dk)(num:Int):Int×Dk:=if (k.write (num%2).toNat (noteOf num)).1≠0 then k.write (num%2).toNat (noteOf num) else (k.write (num%2).toNat (noteOf num)).2.sync
theorem nbyte_by(num:Int)(i:Nat):InI .u8 (nbyte num i):=ini_u8.2 (by unfold nbyte;omega)
theorem noteP_len(num:Int)(m:Nat):(noteP num m).length=64:=by simp[noteP]
theorem noteP_by(num:Int)(m:Nat):Byts (noteP num m):=by
 intro x hx
 simp only[noteP,List.mem_map,List.mem_range]at hx
 obtain⟨j,_,rfl⟩:=hx
 split
 ·exact nbyte_by _ _
 ·split
  ·exact nbyte_by _ _
  ·exact ini_u8.2 (by omega)
theorem noteP_zero(num:Int):List.replicate (64:Int).toNat (Value.int .u8 0)=(noteP num 0).map (Value.int .u8):=by
 apply List.ext_getElem?
 intro j
 simp only[noteP,List.getElem?_map,List.getElem?_replicate]
 by_cases hj:j<64
 ·rw[if_pos (show j<(64:Int).toNat from hj),List.getElem?_eq_getElem (by simpa using hj)]
  simp
  omega
 ·rw[if_neg (show ¬j<(64:Int).toNat from hj),List.getElem?_eq_none (by simp;omega)]
  rfl
theorem noteP_succ(num:Int){m i j:Nat}(hm:m<8)(hi:i=m)(hj:j=56+m){v:Int}(hv:v=nbyte num m):
 (((noteP num m).map (Value.int .u8)).set i (.int .u8 v)).set j (.int .u8 v)=(noteP num (m+1)).map (Value.int .u8):=by
 subst hi hj hv
 rw[←List.map_set,←List.map_set]
 congr 1
 apply List.ext_getElem
 ·simp[noteP]
 intro x h1 h2
 simp only[noteP,List.length_map,List.length_range]at h2
 simp only[List.getElem_set,noteP,List.getElem_map,List.getElem_range]
 by_cases e1:56+i=x
 ·subst e1
  rw[if_pos rfl,if_neg (by omega),if_pos (by omega)]
  congr 1
  omega
 ·rw[if_neg e1]
  by_cases e2:i=x
  ·subst e2
   rw[if_pos rfl,if_pos (by omega)]
  ·rw[if_neg e2]
   (repeat' split)<;>first
    |rfl
    |(exfalso;omega)
theorem note1_ok{M F:List Nat}{w:World}{d l vl vh:Nat}{k:Dk}{num nxt:Int}{b:List Int}{ba:Option Addr}{bc:Nat}(h:DkAt M w d k F)(hl:LogAt w l d num nxt)
 (hvl:w.heap[vl]?=some (.cells #[.pointer (some ⟨l,0,none⟩)] 113 (0,0)))(hvh:w.heap[vh]?=some (.cells #[.slice ba 64 bc] 33 (0,0)))
 (hnd:[vl,vh,l].Nodup)(hM:∀x∈[vl,vh,l],x∈M)(hb:R (tSl (tI .u8)) F w b [.slice ba 64 bc])(h2:2≤k.n)(hnum:0≤num)(hpl:k.pend.length≤2000000):
 Calls Tryz.prog 123 #[.pointer (some ⟨vl,0,none⟩),.pointer (some ⟨vh,0,none⟩)] w fun e w'=>e=.returned (.int .i64 (k.write (num%2).toNat b).1)∧DkTo M F w d (k.write (num%2).toNat b).2 w':=by
 obtain⟨s,hs1,hs2,hs3⟩:=h.ok.secs
 refine note1_vc ⟨hvl,hvh,hl⟩ hnd (by intro x hx;exact h.mlt x (hM x hx)) ⟨by omega,fun w1 hk1=>?_⟩
 have e1:IntKind.i64.wrap (Int.tmod num 2)=(((num%2).toNat:Nat):Int):=by
  rw[Int.tmod_eq_emod_of_nonneg hnum,wrap_in (ini_i64.2 (by omega))]
  omega
 rw[e1]
 refine⟨(dWrite_ok (h.kp0 hk1) (by omega) (i:=(num%2).toNat) (by omega) (Mb:=[]) (by simpa using hb.kp0 hk1)).mono ?_⟩
 rintro e w3 ⟨rfl,F3,hD3,hO3⟩
 exact⟨_,rfl,_,hO3.kp,⟨h.out (hM vl (by simp)),h.out (hM vh (by simp)),h.out (hM l (by simp))⟩,rfl,F3,hD3,(Own.of0 hk1).trans hO3⟩
set_option maxHeartbeats 2000000 in
theorem lNote_ok{M F:List Nat}{w:World}{d l:Nat}{k:Dk}{num nxt:Int}(h:DkAt M w d k F)(hl:LogAt w l d num nxt)(hlM:l∈M)(h2:2≤k.n)(hnum:0≤num)(hpl:k.pend.length≤1000000):
 Calls Tryz.prog 60 #[.pointer (some ⟨l,0,none⟩)] w fun e w'=>e=.returned (.int .i64 (k.note num).1)∧DkTo M F w d (k.note num).2 w':=by
 have hll:=block_lt hl
 have hlF:l∉F:=fun hm=>(h.own_lt l hm).2 hlM
 refine lNote_vc hl fun k1 hk1 w1 hw1 hkn1=>ev_make ez5 (by omega) (by omega) (by omega) fun w2 hb2 hw2=>⟨_,_,_,rfl,_,hw2,⟨⟨by simp⟩,⟨by simp⟩⟩,fun k4 hk4=>?_⟩
 have l1:=block_lt hkn1.1
 have hs1':=hw1.size
 have hbh:=block_lt hb2
 generalize hH:w1.heap.size=H at *
 have hkn2:w2.heap[k1]?=some (.cells #[.pointer (some ⟨l,0,none⟩)] 113 (0,0)):=(hw2.blk k1 (by omega) (by simp)).trans hkn1.1
 have nins:∀{x:Nat},x=H→NotIn k4 [x]∧NotIn k1 [x]∧NotIn l [x]:=by
  rintro x rfl
  refine⟨⟨?_⟩,⟨?_⟩,⟨?_⟩⟩<;>simp only[List.mem_singleton]<;>omega
 rw[noteP_zero num]at hb2
 refine⟨fun vs w'=>∃m:Nat,vs=[.int .i64 (m:Int)]∧m≤8∧w'.heap[H]?=some (.cells ((noteP num m).map (Value.int .u8)).toArray 5 (0,0))∧KpL [H] w2 w'∧
  (w'.heap[k4]?=some (.cells #[.slice (some ⟨H,0,none⟩) (64:Int).toNat (64:Int).toNat] 33 (0,0))∧w'.heap[k1]?=some (.cells #[.pointer (some ⟨l,0,none⟩)] 113 (0,0))∧LogAt w' l d num nxt),
  fun vs _=>match vs with|[.int _ i]=>8 - i.toNat|_=>0,fun w3 hw3 hkn3=>⟨0,rfl,by omega,(hw3.blk H hbh (by simp)).trans hb2,hw3.mono (by simp),hkn3⟩,?_⟩
 rintro n1 w4 ⟨m,hv,hm,hb4,hkp4,hkn4⟩
 simp only[List.cons.injEq,Value.int.injEq,true_and,and_true]at hv
 subst hv
 constructor
 ·intro hlt
  have hm8:m<8:=by omega
  refine⟨ini_i64.2 (by omega),ini_i64.2 (by omega),by omega,ini_i64.2 (by omega),_,rfl,by omega,by show(m:Int)<64;omega,fun w5 hw5 hkn5=>?_⟩
  have hb5:=(hw5.blk H (block_lt hb4) (by simp)).trans hb4
  have hlen:((noteP num m).map (Value.int .u8)).length=64:=by simp[noteP]
  have ev:IntKind.u8.wrap (Int.fdiv num (2 ^ min (Int.toNat (8*(7 - (m:Int)))) (IntKind.bits .u64)))=nbyte num m:=by
   have e1:min (Int.toNat (8*(7 - (m:Int)))) (IntKind.bits .u64)=8*(7 - m):=by
    have:IntKind.bits .u64=64:=rfl
    rw[this];omega
   rw[e1,wrap_u8]
   unfold nbyte
   rw[←fdiv_pow,show((2 ^ (8*(7 - m)):Nat):Int)=(2:Int) ^ (8*(7 - m)) from Int.natCast_pow 2 _]
  obtain⟨s1,s2,s3,s4,s5⟩:=st1 (i:=(m:Int).toNat) (v:=.int .u8 (IntKind.u8.wrap (Int.fdiv num (2 ^ min (Int.toNat (8*(7 - (m:Int)))) (IntKind.bits .u64))))) hb5 (by rw[hlen];omega)
  refine⟨s1,s2,nins s3,?_⟩
  rintro w6 rfl
  intro hkn6
  refine⟨⟨ldA_blk hkn6.1 0 _ rfl,trivial⟩,_,rfl,by omega,by show(56:Int)+m<64;omega,fun _=>?_⟩
  obtain⟨t1,t2,t3,t4,t5⟩:=st1 (i:=(56+(m:Int)).toNat) (v:=.int .u8 (IntKind.u8.wrap (Int.fdiv num (2 ^ min (Int.toNat (8*(7 - (m:Int)))) (IntKind.bits .u64))))) s4 (by rw[List.length_set,hlen];omega)
  refine⟨t1,t2,nins t3,?_⟩
  intro w7 hw7
  rw[←hw7]at t4 t5
  refine⟨ini_i64.2 (by omega),fun hkn7=>⟨⟨m+1,by simp,by omega,?_,((hkp4.trans (hw5.mono (by simp))).trans s5).trans t5,hkn7⟩,?_⟩⟩
  ·rw[t4,noteP_succ num hm8 (by omega) (by omega) ev]
  ·show 8 - ((m:Int)+1).toNat<8 - (m:Int).toNat
   omega
 ·intro hge k5 hk5 w8 hw8 hkn8
  have hm8:m=8:=by omega
  subst hm8
  have hkp:KpL [] w w8:=((hw1.trans hw2).more hkp4 (by intro x hx;simp at hx;exact .inr (by omega))).trans hw8
  have hs2:=hw2.size
  have hs4:=hkp4.size
  have hk4l:=block_lt hkn4.1
  have hs8:=hw8.size
  have hk5l:=block_lt hkn8.1
  have hnews:∀x∈[k5,k4,k1],w.heap.size≤x∧x<w8.heap.size:=by
   intro x hx
   simp only[List.mem_cons,List.not_mem_nil,or_false]at hx
   rcases hx with rfl|rfl|rfl<;>omega
  have hD:=h.news hkp hnews
  have hM:∀x∈[k5,k4,k1,l],x∈[k5,k4,k1]++M:=by
   intro x hx
   simp only[List.mem_cons,List.not_mem_nil,or_false]at hx
   rcases hx with rfl|rfl|rfl|rfl<;>simp[hlM]
  have hb8:w8.heap[H]?=some (.cells ((noteOf num).map (Value.int .u8)++[]).toArray 5 (0,0)):=by
   rw[List.append_nil]
   exact(hw8.blk H (block_lt hb4) (by simp)).trans hb4
  have hRn:R (tSl (tI .u8)) F w8 (noteOf num) [.slice (some ⟨H,0,none⟩) 64 64]:=by
   have:=R.ofBlk (M:=F) (c:=64) hb8 (fun hm=>by have:=(h.own_lt H hm).1;omega) (noteP_by num 8) (by rw[noteOf,noteP_len];exact Nat.le_refl _) (by rw[noteOf,noteP_len];decide)
   rwa [noteOf,noteP_len]at this
  refine⟨(all_ok (b:=k5) (fs:=[(123,#[],#[.pointer (some ⟨k1,0,none⟩),.pointer (some ⟨k4,0,none⟩)]),(37,#[.pointer (some ⟨d,0,none⟩)],#[])])
   (T:=49) hkn8.1 (by simp) (c:=2) (R:=fun e w'=>∃n1,e=.returned (.int .i64 n1)∧n1=(k.note num).1∧DkTo ([k5,k4,k1]++M) F w8 d (k.note num).2 w') ?_).mono ?_⟩
  ·have hk14:k1≠k4:=by omega
   refine⟨⟨_,_,Tryz.func123,rfl⟩,⟨(note1_ok hD hkn8.2.2.2 hkn8.2.2.1 hkn8.2.1 (by simp;omega) (fun x hx=>hM x (by simp at hx ⊢;omega)) hRn h2 hnum (by omega)).mono ?_⟩⟩
   rintro e wa ⟨rfl,Fa,hDa,hOa⟩
   refine⟨_,_,rfl,hOa.kp,hD.out (by simp),fun hne=>⟨_,rfl,?_,?_⟩,fun hz=>?_⟩
   ·unfold Dk.note;rw[if_pos hne]
   ·unfold Dk.note;rw[if_pos hne];exact⟨Fa,hDa,hOa⟩
   have hfin:k.note num=(k.write (num%2).toNat (noteOf num)).2.sync:=by unfold Dk.note;rw[if_neg (by simp[hz])]
   refine⟨⟨_,_,Tryz.func37,rfl⟩,⟨(dSync_ok hDa (by have:=Dk.write_pend k (num%2).toNat (noteOf num);omega)).mono ?_⟩⟩
   rintro e wc ⟨rfl,Fc,hDc,hOc⟩
   refine⟨_,_,rfl,hOc.kp,hDa.out (by simp),fun hne=>⟨_,rfl,by rw[hfin],by rw[hfin];exact⟨Fc,hDc,hOa.trans hOc⟩⟩,fun hz3=>?_⟩
   exact⟨_,rfl,by rw[hfin,hz3],by rw[hfin];exact⟨Fc,hDc,hOa.trans hOc⟩⟩
  ·rintro e w9 ⟨n1,rfl,hn1,F',hD',hO'⟩
   subst hn1
   exact⟨_,rfl,F,hO'.kp,⟨hD.out (by simp),hD.out (by simp),⟨hlF⟩⟩,fun _=>⟨rfl,F',hD'.weak (fun x hx=>List.mem_append_right _ hx),(Own.of0 hkp).trans hO'⟩⟩
end Go.Vc
namespace Go.Vc
open Go Go.Proofs
theorem or_u64{n c:Int}(hn:0≤n)(hn2:n<72057594037927936)(hc:InI .u8 c):bitsI .or .u64 (IntKind.u64.wrap (n*((2 ^ 8:Nat):Int))) c=n*256+c:=by
 rw[ini_u8]at hc
 obtain⟨x,rfl⟩:∃x:Nat,n=x:=⟨n.toNat,by omega⟩
 obtain⟨z,rfl⟩:∃x:Nat,c=x:=⟨c.toNat,by omega⟩
 have e1:(x:Int)*((2 ^ 8:Nat):Int)=((2 ^ 8*x:Nat):Int):=by omega
 rw[wrap_in (ini_u64.2 (by omega)),e1]
 have h1:(BitVec.ofInt 64 ((2 ^ 8*x:Nat):Int) ||| BitVec.ofInt 64 (z:Int)).toNat=2 ^ 8*x ||| z:=by
  rw[BitVec.toNat_or,BitVec.toNat_ofInt,BitVec.toNat_ofInt]
  congr 1<;>omega
 show IntKind.u64.wrap (((BitVec.ofInt 64 ((2 ^ 8*x:Nat):Int) ||| BitVec.ofInt 64 (z:Int)).toNat:Nat):Int)=_
 rw[h1,←Nat.two_pow_add_eq_or_of_lt (i:=8) (b:=z) (by omega),wrap_in (ini_u64.2 (by omega))]
 omega
def numB(l:List Int):Int:=l.foldl (fun n c=>n*256+c) 0
theorem numB_snoc(l:List Int)(c:Int):numB (l++[c])=numB l*256+c:=by simp[numB]
theorem foldB_rng:∀(l:List Int) (acc:Int),Byts l→0≤acc→0≤l.foldl (fun n c=>n*256+c) acc∧l.foldl (fun n c=>n*256+c) acc<(acc+1)*256 ^ l.length
 |[],acc,_,h=>⟨h,by simp;omega⟩
 |c::r,acc,hb,h=>by
  have hc:=ini_u8.1 (hb c (by simp))
  have:=foldB_rng r (acc*256+c) (fun x hx=>hb x (by simp[hx])) (by omega)
  refine⟨this.1,Int.lt_of_lt_of_le this.2 ?_⟩
  rw[List.length_cons,Int.pow_succ,←Int.mul_assoc,Int.mul_comm ((acc+1)*256 ^ r.length) 256,←Int.mul_assoc]
  refine Int.mul_le_mul_of_nonneg_right (by omega) (Int.le_of_lt (Int.pow_pos (by omega)))
theorem numB_rng{l:List Int}(h:Byts l):0≤numB l∧numB l<256 ^ l.length:=by
 have:=foldB_rng l 0 h (by omega)
 simpa[numB]using this
def Dk.noted(k:Dk)(i:Nat)(cur:Int):Int :=
 if (secOf k.now i).take 8=(secOf k.now i).drop 56∧cur<numB ((secOf k.now i).take 8)∧numB ((secOf k.now i).take 8)%2=i then numB ((secOf k.now i).take 8) else cur
def Dk.newest(k:Dk):Int:=k.noted 1 (k.noted 0 0)
theorem newest_ok{M F:List Nat}{w:World}{d:Nat}{k:Dk}(h:DkAt M w d k F)(h2:2≤k.n):
 Calls Tryz.prog 63 #[.pointer (some ⟨d,0,none⟩)] w fun e w'=>KpL [] w w'∧if k.down=true then e=.returned (.tuple #[.pointer none,.int .i64 17]) else
  ∃l,e=.returned (.tuple #[.pointer (some ⟨l,0,none⟩),.int .i64 0])∧LogAt w' l d k.newest 0∧w.heap.size≤l∧InI .u64 k.newest:=by
 obtain⟨s,hs1,hs2,hs3⟩:=h.ok.secs
 have hre:∀i:Int,0≤i→i<2→k.readE i=if k.down=true then 17 else 0:=fun i h0 h1=>by unfold Dk.readE Dk.secs;rw[if_neg (by omega)]
 refine newest_vc fun l hl=>⟨fun vs w'=>∃(i:Nat) (num:Int),vs=[.int .i64 (i:Int),.pointer (some ⟨d,0,none⟩),.int .u64 num,.int .i64 0]∧i≤2∧KpL [] w w'∧w'.heap[l]?=some (.cells #[.pointer (some ⟨d,0,none⟩),.int .u64 num,.int .i64 0] 121 (0,0))∧InI .u64 num∧
  (num=if i=0 then 0 else if i=1 then k.noted 0 0 else k.newest)∧(0<i→k.down=false),
  fun vs _=>match vs with|.int _ i::_=>2 - i.toNat|_=>0,fun w1 hw1 hl1=>⟨0,0,rfl,by omega,hw1,hl1,ini_u64.2 (by omega),rfl,fun h=>by omega⟩,?_⟩
 rintro n1 a1 num n3 w2 hl2 ⟨i,num0,hv,hi,hk2,_,hin,hnum,hdn⟩
 simp only[List.cons.injEq,Value.pointer.injEq,Value.int.injEq,true_and,and_true]at hv
 obtain⟨rfl,rfl,rfl,rfl⟩:=hv
 have h2w:=h.kp0 hk2
 constructor
 ·intro hlt _
  refine⟨(dRead_ok h2w (N:=[]) (by simp) (i:Int)).mono ?_⟩
  rintro e w3 ⟨a,n,c,rfl,hk3,hR⟩
  have hki:=hre i (by omega) (by omega)
  rw[hki]at hR ⊢
  refine⟨_,_,_,_,rfl,hk3,fun hne _=>?_,fun hz=>?_⟩
  ·have hd:k.down=true:=by
    cases hd:k.down
    ·rw[hd]at hne;simp at hne
    ·rfl
   rw[if_pos hd,if_pos hd]
   exact⟨hk2.trans hk3,rfl⟩
  have hd:k.down=false:=by
   cases hd:k.down
   ·rfl
   ·rw[hd]at hz;simp at hz
  have hC:=hR (by rw[if_neg (by simp[hd])])
  rw[Int.toNat_natCast]at hC
  have hsl:(secOf k.now i).length=64:=secOf_len (by omega)
  have hn64:n=64:=by rw[hC.acc.len,hsl]
  subst hn64
  have hmx:maxSl=140737488355328:=rfl
  have hRh:=hC.acc.done (by omega)
  have hR8:=hRh.sub 0 8 (by omega) (by omega)
  have hR56:=hRh.sub 56 64 (by omega) (by omega)
  have hcap:=hC.acc.cap
  rw[List.drop_zero,Nat.sub_zero]at hR8
  rw[List.take_of_length_le (by simp[hsl])]at hR56
  have hby8:Byts ((secOf k.now i).take 8):=hR8.ints
  have hl8:((secOf k.now i).take 8).length=8:=by simp[hsl]
  refine⟨_,_,_,pv_slice elB33 (l:=0) (h:=8) (.inr ⟨rfl,rfl⟩) (.inl rfl) (by omega) (by omega),fun vs w'=>∃j:Nat,vs=[.int .u64 (numB (((secOf k.now i).take 8).take j)),.int .i64 (j:Int)]∧j≤8∧KpL [] w3 w',
   fun vs _=>match vs with|[_,.int _ j]=>8 - j.toNat|_=>0,fun _=>⟨0,rfl,by omega,KpL.refl _ _⟩,?_⟩
  rintro n5 n6 w4 ⟨j,hv,hj,hk4⟩
  simp only[List.cons.injEq,Value.int.injEq,true_and,and_true]at hv
  obtain⟨rfl,rfl⟩:=hv
  have hk34:=hk3.trans hk4
  constructor
  ·intro hlt2
   obtain⟨ad,cs,h1,hv1,hld,_,_⟩:=(hR8.kp0 hk4).sl_get (i:=j) (by omega)
   obtain⟨rfl,hin8⟩:=hv1.intD
   have hrng:=numB_rng (l:=((secOf k.now i).take 8).take j) (hby8.take j)
   have hp:(256:Int) ^ (((secOf k.now i).take 8).take j).length≤256 ^ 7:=by
    have e1:∀n:Nat,(256:Int) ^ n=((256 ^ n:Nat):Int):=fun n=>(Int.natCast_pow 256 n).symm
    rw[e1,e1]
    exact Int.ofNat_le.2 (Nat.pow_le_pow_right (by omega) (by rw[List.length_take];omega))
   have h7:(256:Int) ^ 7=72057594037927936:=by decide
   have hin8':=ini_u8.1 hin8
   refine⟨ad,h1,by omega,by omega,fun _=>⟨_,hld,ini_u64.2 (by omega),ini_i64.2 (by omega),fun _=>⟨⟨j+1,?_,by omega,hk4⟩,?_⟩⟩⟩
   ·rw[or_u64 hrng.1 (by omega) hin8,←List.take_append_getElem (l:=(secOf k.now i).take 8) (i:=j) (by omega),numB_snoc]
    simp
   ·show 8 - ((j:Int)+1).toNat<8 - (j:Int).toNat
    omega
  ·intro hge2
   have hj8:j=8:=by omega
   subst hj8
   rw[List.take_of_length_le (Nat.le_of_eq hl8)]
   refine⟨_,_,_,pv_slice elB33 (l:=0) (h:=8) (.inr ⟨rfl,rfl⟩) (.inl rfl) (by omega) (by omega),_,_,_,pv_slice elB33 (l:=56) (h:=64) (.inl rfl) (.inr ⟨rfl,rfl⟩) (by omega) (by omega),fun w5 hk5 hl5=>?_⟩
   refine⟨(equal124_ok ((hR8.kp0 hk4).kp0 hk5) ((hR56.kp0 hk4).kp0 hk5)).mono ?_⟩
   rintro e w6 ⟨rfl,hk6⟩
   have hk06:KpL [] w w6:=((hk2.trans hk34).trans hk5).trans hk6
   have hl6:w6.heap[l]?=some (.cells #[.pointer (some ⟨d,0,none⟩),.int .u64 num,.int .i64 0] 121 (0,0)):=(hk6.blk l (block_lt hl5) (by simp)).trans hl5
   have hrng8:=numB_rng hby8
   have h8:(256:Int) ^ ((secOf k.now i).take 8).length=18446744073709551616:=by rw[hl8];decide
   generalize hB:numB ((secOf k.now i).take 8)=B at *
   have hinB:InI .u64 B:=ini_u64.2 (by omega)
   have hstep:∀c:Int,c=num→(if i+1=0 then 0 else if i+1=1 then k.noted 0 0 else k.newest)=k.noted i c:=by
    rintro c rfl
    rcases (show i=0∨i=1 by omega) with rfl|rfl
    ·rw[hnum];rfl
    ·rw[hnum];rfl
   have hun:∀c:Int,k.noted i c=if (secOf k.now i).take 8=(secOf k.now i).drop 56∧c<B∧B%2=i then B else c:=fun c=>by unfold Dk.noted;rw[hB]
   have emod:IntKind.i64.wrap (Int.tmod B 2)=B%2:=by
    rw[Int.tmod_eq_emod_of_nonneg hrng8.1]
    exact wrap_in (ini_i64.2 (by omega))
   have stay:k.noted i num=num→InI .i64 ((i:Int)+1)∧(w6.heap[l]?=some (.cells #[.pointer (some ⟨d,0,none⟩),.int .u64 num,.int .i64 0] 121 (0,0))→
    (∃(i':Nat) (num':Int),[Value.int .i64 ((i:Int)+1),.pointer (some ⟨d,0,none⟩),.int .u64 num,.int .i64 0]=[.int .i64 (i':Int),.pointer (some ⟨d,0,none⟩),.int .u64 num',.int .i64 0]∧i'≤2∧KpL [] w w6∧w6.heap[l]?=some (.cells #[.pointer (some ⟨d,0,none⟩),.int .u64 num',.int .i64 0] 121 (0,0))∧InI .u64 num'∧
    (num'=if i'=0 then 0 else if i'=1 then k.noted 0 0 else k.newest)∧(0<i'→k.down=false))∧2 - ((i:Int)+1).toNat<2 - (i:Int).toNat):=fun hst =>
    ⟨ini_i64.2 (by omega),fun hl6'=>⟨⟨i+1,num,by simp,by omega,hk06,hl6',hin,by rw[hstep num rfl,hst],fun _=>hd⟩,by omega⟩⟩
   refine⟨_,rfl,hk6,fun heq=>⟨fun hgt=>⟨by omega,fun hmod=>?_,fun hmod=>?_⟩,fun hgt=>?_⟩,fun hne=>?_⟩
   ·rw[emod]at hmod
    refine⟨ini_i64.2 (by omega),fun w7 hk7 hl7=>⟨⟨i+1,B,by simp,by omega,hk06.more hk7 (by intro x hx;simp at hx;exact .inr (by omega)),hl7,hinB,?_,fun _=>hd⟩,?_⟩⟩
    ·rw[hstep num rfl,hun,if_pos ⟨by simpa using heq,hgt,hmod⟩]
    ·show 2 - ((i:Int)+1).toNat<2 - (i:Int).toNat
     omega
   ·rw[emod]at hmod
    exact stay (by rw[hun,if_neg (fun hc=>hmod hc.2.2)])
   ·exact stay (by rw[hun,if_neg (fun hc=>hgt hc.2.1)])
   ·exact stay (by rw[hun,if_neg (fun hc=>by simp[hc.1]at hne)])
 ·intro hge hl2'
  have hi2:i=2:=by omega
  subst hi2
  have hd:=hdn (by omega)
  refine⟨hk2,?_⟩
  rw[if_neg (by simp[hd])]
  have hnum':num=k.newest:=hnum
  rw[←hnum']
  exact⟨l,rfl,hl2',hl,hin⟩
end Go.Vc
namespace Go.Vc
open Go Go.Proofs
open Go.Value Go.Ending Go.IntKind
set_option maxRecDepth 100000
theorem ready_vc{s:Nat}{w:World}{R:Ending→World→Prop}
 (h :
 ∃a1,LdA w ((Addr.mk s 0 none).add 0) [pointer a1]∧
 (a1=none→
 R (returned (int i64 1)) w)∧
 (¬a1=none→
 ∃a2,LdA w ((Addr.mk s 0 none).add 0) [pointer a2]∧
 ∃d1,a2=some d1∧
 ∃a3,LdA w (d1.add 0) [pointer a3]∧
 ∃d2,a3=some d2∧
 ∃b1,LdA w (d2.add 5) [Value.bool b1]∧
 (b1=false→
 ∃n1,LdA w ((Addr.mk s 0 none).add 1) [int i64 n1]∧
 ∃a4,LdA w ((Addr.mk s 0 none).add 0) [pointer a4]∧
 ∃d3,a4=some d3∧
 ∃a5,LdA w (d3.add 0) [pointer a5]∧
 ∃d4,a5=some d4∧
 ∃n2,LdA w (d4.add 8) [int i64 n2]∧
 (n1≠n2→
 ∀w1,KpL [] w w1→
 R (returned (int i64 17)) w1)∧
 (¬n1≠n2→
 ∀w2,KpL [] w w2→
 R (returned (int i64 0)) w2))∧
 (b1=true→
 ∀w3,KpL [] w w3→
 R (returned (int i64 17)) w3))):Calls Tryz.prog 45 #[pointer (some (Addr.mk s 0 none))] w R :=
 fnc0 (an:={}) (args:=[.a (.c (.v (.pointer (some ⟨s,0,none⟩))))]) Tryz_ok Tryz.func45 (by kernel_rfl) rfl rfl h
theorem readyN_vc{u:Nat}{w:World}{R:Ending→World→Prop}
 (h :
 ∃b1,Pv Tryz.prog
 (do
 eqGuard BinOp.eql 41 (Operand.tmp 4) (Operand.const (pointer none)) (pointer none) (pointer none)
 binOp BinOp.eql 41 (pointer none) (pointer none))
 (Value.bool b1)∧
 (b1=false→
 False)∧
 (b1=true→
 R (returned (int i64 1)) w)):Calls Tryz.prog 45 #[pointer none] w R :=
 fnc0 (an:={}) (args:=[.a (.c (.v (.pointer none)))]) Tryz_ok Tryz.func45 (by kernel_rfl) rfl rfl h
theorem lost_vc{s:Nat}{x:Int}{w:World}{R:Ending→World→Prop}
 (h :
 (x≠0→
 (∃l1,LdA w ((Addr.mk s 0 none).add 1) l1∧
 l1.length=1)∧
 NotFrozen w ((Addr.mk s 0 none).add 1) 1∧
 ∀w1,w1=stA w ((Addr.mk s 0 none).add 1) [int i64 (-1)] 0→
 R (returned (int i64 x)) w1)∧
 (¬x≠0→
 R (returned (int i64 x)) w)):Calls Tryz.prog 51 #[pointer (some (Addr.mk s 0 none)),int i64 x] w R :=
 fnc0 (an:={}) (args:=[.a (.c (.v (.pointer (some ⟨s,0,none⟩)))),.a (.c (.v (.int .i64 x)))]) Tryz_ok Tryz.func51 (by kernel_rfl) rfl rfl h
theorem opened_vc{s:Nat}{w:World}{R:Ending→World→Prop}
 (h :
 ∃a1,LdA w ((Addr.mk s 0 none).add 0) [pointer a1]∧
 ∃d1,a1=some d1∧
 ∃a2,LdA w (d1.add 0) [pointer a2]∧
 ∃d2,a2=some d2∧
 ∃n1,LdA w (d2.add 8) [int i64 n1]∧
 InI i64 (n1+1)∧
 ∃d3,a2=some d3∧
 (∃l1,LdA w (d3.add 8) l1∧
 l1.length=1)∧
 NotFrozen w (d3.add 8) 1∧
 ∀w1,w1=stA w (d3.add 8) [int i64 (n1+1)] 0→
 ∃a3,LdA w1 ((Addr.mk s 0 none).add 0) [pointer a3]∧
 ∃d4,a3=some d4∧
 ∃a4,LdA w1 (d4.add 0) [pointer a4]∧
 ∃d5,a4=some d5∧
 ∃n2,LdA w1 (d5.add 8) [int i64 n2]∧
 (∃l2,LdA w1 ((Addr.mk s 0 none).add 1) l2∧
 l2.length=1)∧
 NotFrozen w1 ((Addr.mk s 0 none).add 1) 1∧
 ∀w2,w2=stA w1 ((Addr.mk s 0 none).add 1) [int i64 n2] 0→
 R (returned (pointer (some (Addr.mk s 0 none)))) w2):Calls Tryz.prog 67 #[pointer (some (Addr.mk s 0 none))] w R :=
 fnc0 (an:={}) (args:=[.a (.c (.v (.pointer (some ⟨s,0,none⟩))))]) Tryz_ok Tryz.func67 (by kernel_rfl) rfl rfl h
theorem compacted_vc{s l:Nat}{id:Int}{ra:Option Addr}{rn rc:Nat}{mo:Option Nat}{qa:Option Addr}{qn qc:Nat}{us:Int}{w:World}{R:Ending→World→Prop}
 (hk:Hb w s #[pointer (some (Addr.mk l 0 none)),int i64 id,slice ra rn rc,map mo,slice qa qn qc,int i64 us] 116)
 (h :
 InI i64 ((8:Int)*(↑rn:Int))∧
 InI i64 ((1:Int)+(8:Int)*(↑rn:Int))∧
 ∀w1,KpL [] w w1→
 Ev Tryz.prog (Builtin.len_ #[114] 3 #[map mo]) w1 fun y1 w2 =>
 ∃n1,y1=int i64 n1∧
 ∃l1,KpL l1 w1 w2∧
 NotIn s l1∧
 (LdA w2 (Addr.mk s (0+4) none) [slice qa qn qc]∧
 LdA w2 (Addr.mk s (0+2) none) [slice ra rn rc]∧
 True)∧
 InI i64 (3*n1)∧
 InI i64 ((1:Int)+(8:Int)*(↑rn:Int)+(3:Int)*n1)∧
 InI i64 ((1:Int)+(8:Int)*(↑rn:Int)+(3:Int)*n1+(↑qn:Int))∧
 R (returned (int i64 ((1:Int)+(8:Int)*(↑rn:Int)+(3:Int)*n1+(↑qn:Int)))) w2):Calls Tryz.prog 61 #[pointer (some (Addr.mk s 0 none))] w R :=
 fncK (an:={}) (args:=[.a (.c (.loc 0 0))]) (rho:=[s]) (hp:=[(0,116,[.v (.pointer (some ⟨l,0,none⟩)),.v (.int .i64 id),.v (.slice ra rn rc),.v (.map mo),.v (.slice qa qn qc),.v (.int .i64 us)])]) Tryz_ok Tryz.func61 (by kernel_rfl) rfl rfl hk (by simp) (by simpa using block_lt hk) rfl (by simp) h
theorem weight_vc{tok:ByteArray}{stp:Int}{arn:ByteArray}{ca:Option Addr}{cn cc:Nat}{w:World}{R:Ending→World→Prop}
 (h :
 ∀k1,w.heap.size≤k1→
 InI i64 ((3:Int)*(↑cn:Int))∧
 InI i64 ((2:Int)+(3:Int)*(↑cn:Int))∧
 ∀w1,KpL [] w w1→
 R (returned (int i64 ((2:Int)+(3:Int)*(↑cn:Int)))) w1):Calls Tryz.prog 49 #[agg #[string tok,int i64 stp,string arn,slice ca cn cc]] w R :=
 fnc0 (an:={}) (args:=[.a (.agg [.v (.string tok),.v (.int .i64 stp),.v (.string arn),.v (.slice ca cn cc)])]) Tryz_ok Tryz.func49 (by kernel_rfl) rfl rfl h
theorem newer_vc{s l:Nat}{id:Int}{ra:Option Addr}{rn rc:Nat}{mo:Option Nat}{qa:Option Addr}{qn qc:Nat}{us:Int}{x y:Int}{w:World}{R:Ending→World→Prop}
 (hk:Hb w s #[pointer (some (Addr.mk l 0 none)),int i64 id,slice ra rn rc,map mo,slice qa qn qc,int i64 us] 116)
 (h :
 (y=0→
 R (returned (Value.bool true)) w)∧
 (¬y=0→
 InI i64 (x - 1)∧
 ∃d1,qa=some d1∧
 0≤x - 1∧
 x - (1:Int)<(↑qn:Int)∧
 ∃s1 n1,LdA w (d1.add ((x - 1).toNat*2)) [string s1,int i64 n1]∧
 InI i64 (y - 1)∧
 ∃d2,qa=some d2∧
 0≤y - 1∧
 y - (1:Int)<(↑qn:Int)∧
 ∃s2 n2,LdA w (d2.add ((y - 1).toNat*2)) [string s2,int i64 n2]∧
 (∀k1,w.heap.size≤k1→
 ∀k2,w.heap.size≤k2→
 ∀w1,KpL [] w w1→
 (LdA w1 (d2.add ((y - 1).toNat*2)) [string s2,int i64 n2]∧
 LdA w1 (Addr.mk s (0+4) none) [slice qa qn qc]∧
 True)∧
 (¬n2<n1→
 (n1=n2→
 ∀w2,KpL [k2] w1 w2→
 R (returned (Value.bool !(Op.bytesLess s1.toList s2.toList || s1.toList == s2.toList))) w2)∧
 (¬n1=n2→
 ∀w3,KpL [k2] w1 w3→
 R (returned (Value.bool false)) w3))∧
 (n2<n1→
 ∀w4,KpL [k2] w1 w4→
 R (returned (Value.bool true)) w4))∧
 ∀k3,w.heap.size≤k3→
 ∀k4,w.heap.size≤k4→
 ∀w5,KpL [] w w5→
 (LdA w5 (d2.add ((y - 1).toNat*2)) [string s2,int i64 n2]∧
 LdA w5 (Addr.mk s (0+4) none) [slice qa qn qc]∧
 True)∧
 (¬n2<n1→
 (n1=n2→
 ∀w6,KpL [k3] w5 w6→
 R (returned (Value.bool !(Op.bytesLess s1.toList s2.toList || s1.toList == s2.toList))) w6)∧
 (¬n1=n2→
 ∀w7,KpL [k3] w5 w7→
 R (returned (Value.bool false)) w7))∧
 (n2<n1→
 ∀w8,KpL [k3] w5 w8→
 R (returned (Value.bool true)) w8))):Calls Tryz.prog 115 #[pointer (some (Addr.mk s 0 none)),int i64 x,int i64 y] w R :=
 fncK (an:={}) (args:=[.a (.c (.loc 0 0)),.a (.c (.v (.int .i64 x))),.a (.c (.v (.int .i64 y)))]) (rho:=[s]) (hp:=[(0,116,[.v (.pointer (some ⟨l,0,none⟩)),.v (.int .i64 id),.v (.slice ra rn rc),.v (.map mo),.v (.slice qa qn qc),.v (.int .i64 us)])]) Tryz_ok Tryz.func115 (by kernel_rfl) rfl rfl hk (by simp) (by simpa using block_lt hk) rfl (by simp) h
theorem find_vc{s l:Nat}{id:Int}{ra:Option Addr}{rn rc:Nat}{mo:Option Nat}{qa:Option Addr}{qn qc:Nat}{us:Int}{nm:ByteArray}{w:World}{R:Ending→World→Prop}
 (hk:Hb w s #[pointer (some (Addr.mk l 0 none)),int i64 id,slice ra rn rc,map mo,slice qa qn qc,int i64 us] 116)
 (h :
 ∀k1,w.heap.size≤k1→
 ∀w1,KpL [] w w1→
 Hb w1 k1 #[string nm] 9∧
 Hb w1 s #[pointer (some (Addr.mk l 0 none)),int i64 id,slice ra rn rc,map mo,slice qa qn qc,int i64 us] 116→
 CallW Tryz.prog 151 (#[slice ra rn rc,func (Fn.func 152) #[] #[pointer (some (Addr.mk k1 0 none))]]) w1 fun e1 w2 =>
 ∃n1,e1=returned (int i64 n1)∧
 KpL [] w1 w2∧
 (Hb w2 k1 #[string nm] 9∧
 Hb w2 s #[pointer (some (Addr.mk l 0 none)),int i64 id,slice ra rn rc,map mo,slice qa qn qc,int i64 us] 116→
 R (returned (int i64 n1)) w2)):Calls Tryz.prog 103 #[pointer (some (Addr.mk s 0 none)),string nm] w R :=
 fncK (an:={ all:=true }) (args:=[.a (.c (.loc 0 0)),.a (.c (.v (.string nm)))]) (rho:=[s]) (hp:=[(0,116,[.v (.pointer (some ⟨l,0,none⟩)),.v (.int .i64 id),.v (.slice ra rn rc),.v (.map mo),.v (.slice qa qn qc),.v (.int .i64 us)])]) Tryz_ok Tryz.func103 (by kernel_rfl) rfl rfl hk (by simp) (by simpa using block_lt hk) rfl (by simp) h
theorem findF_vc{k:Nat}{kn:ByteArray}{nm:ByteArray}{xa:Option Addr}{xn xc:Nat}{ya:Option Addr}{yn yc:Nat}{za:Option Addr}{zn zc:Nat}{w:World}{R:Ending→World→Prop}
 (hk:Hb w k #[string kn] 9)
 (h :
 ∀k1,w.heap.size≤k1→
 ∀w1,KpL [] w w1→
 Hb w1 k1 #[string nm,slice xa xn xc,slice ya yn yc,slice za zn zc] 60∧
 Hb w1 k #[string kn] 9→
 R (returned (Value.bool (decide (nm=kn)))) w1):Calls Tryz.prog 152 #[agg #[string nm,slice xa xn xc,slice ya yn yc,slice za zn zc],pointer (some (Addr.mk k 0 none))] w R :=
 fncK (an:={ all:=true }) (args:=[.a (.agg [.v (.string nm),.v (.slice xa xn xc),.v (.slice ya yn yc),.v (.slice za zn zc)]),.a (.c (.loc 0 0))]) (rho:=[k]) (hp:=[(0,9,[.v (.string kn)])]) Tryz_ok Tryz.func152 (by kernel_rfl) rfl rfl hk (by simp) (by simpa using block_lt hk) rfl (by simp) h
theorem index151_vc{aa:Option Addr}{an ac:Nat}{f:Nat}{fi ca:Array Value}{w:World}{R:Ending→World→Prop}
 (h :
 ∃(P1:List Value→World→Prop) (P2:List Value→World→Nat),P1 [int i64 0] w∧
 ∀n1 w1,P1 [int i64 n1] w1→
 (n1<(↑an:Int)→
 ∃d1,aa=some d1∧
 0≤n1∧
 n1<(↑an:Int)∧
 ∃s1 a1 k1 k2 a2 k3 k4 a3 k5 k6,LdA w1 (d1.add (n1.toNat*4)) [string s1,slice a1 k1 k2,slice a2 k3 k4,slice a3 k5 k6]∧
 FuncOk Tryz.prog f∧
 CallW Tryz.prog f ((fi.toList++[agg #[string s1,slice a1 k1 k2,slice a2 k3 k4,slice a3 k5 k6]]++ca.toList).toArray) w1 fun e1 w2 =>
 ∃b1,e1=returned (Value.bool b1)∧
 ∃l1,KpL l1 w1 w2∧
 (b1=true→
 R (returned (int i64 n1)) w2)∧
 (b1=false→
 InI i64 (n1+1)∧
 P1 [int i64 (n1+1)] w2∧
 P2 [int i64 (n1+1)] w2<P2 [int i64 n1] w1))∧
 (¬n1<(↑an:Int)→
 R (returned (int i64 (-1))) w1)):Calls Tryz.prog 151 #[slice aa an ac,func (Fn.func f) fi ca] w R :=
 fnc0 (an:={ loops:=[⟨2,[8],[4,5,9,10,11,12,13,14,15,16,17,18],[]⟩] }) (args:=[.a (.c (.v (.slice aa an ac))),.a (.c (.v (.func (.func f) fi ca)))]) Tryz_ok Tryz.func151 (by kernel_rfl) rfl rfl h
theorem putF_vc{k:Nat}{tk:ByteArray}{sp:Int}{tok:ByteArray}{stp:Int}{arn:ByteArray}{ca:Option Addr}{cn cc:Nat}{w:World}{R:Ending→World→Prop}
 (hk:Hb w k #[string tok,int i64 stp,string arn,slice ca cn cc] 48)
 (h :
 ∀k1,w.heap.size≤k1→
 ∀w1,KpL [] w w1→
 Hb w1 k1 #[string tk,int i64 sp] 112∧
 Hb w1 k #[string tok,int i64 stp,string arn,slice ca cn cc] 48→
 R (returned (Value.bool (decide (tk=tok)))) w1):Calls Tryz.prog 48 #[agg #[string tk,int i64 sp],pointer (some (Addr.mk k 0 none))] w R :=
 fncK (an:={ all:=true }) (args:=[.a (.agg [.v (.string tk),.v (.int .i64 sp)]),.a (.c (.loc 0 0))]) (rho:=[k]) (hp:=[(0,48,[.v (.string tok),.v (.int .i64 stp),.v (.string arn),.v (.slice ca cn cc)])]) Tryz_ok Tryz.func48 (by kernel_rfl) rfl rfl hk (by simp) (by simpa using block_lt hk) rfl (by simp) h
theorem index107_vc{aa:Option Addr}{an ac:Nat}{f:Nat}{fi ca:Array Value}{w:World}{R:Ending→World→Prop}
 (h :
 ∃(P1:List Value→World→Prop) (P2:List Value→World→Nat),P1 [int i64 0] w∧
 ∀n1 w1,P1 [int i64 n1] w1→
 (n1<(↑an:Int)→
 ∃d1,aa=some d1∧
 0≤n1∧
 n1<(↑an:Int)∧
 ∃s1 n2,LdA w1 (d1.add (n1.toNat*2)) [string s1,int i64 n2]∧
 FuncOk Tryz.prog f∧
 CallW Tryz.prog f ((fi.toList++[agg #[string s1,int i64 n2]]++ca.toList).toArray) w1 fun e1 w2 =>
 ∃b1,e1=returned (Value.bool b1)∧
 ∃l1,KpL l1 w1 w2∧
 (b1=true→
 R (returned (int i64 n1)) w2)∧
 (b1=false→
 InI i64 (n1+1)∧
 P1 [int i64 (n1+1)] w2∧
 P2 [int i64 (n1+1)] w2<P2 [int i64 n1] w1))∧
 (¬n1<(↑an:Int)→
 R (returned (int i64 (-1))) w1)):Calls Tryz.prog 107 #[slice aa an ac,func (Fn.func f) fi ca] w R :=
 fnc0 (an:={ loops:=[⟨2,[8],[4,5,9,10,11,12,13,14,15,16,17,18],[]⟩] }) (args:=[.a (.c (.v (.slice aa an ac))),.a (.c (.v (.func (.func f) fi ca)))]) Tryz_ok Tryz.func107 (by kernel_rfl) rfl rfl h
theorem contains47_vc{aa:Option Addr}{an ac:Nat}{f:Nat}{fi ca:Array Value}{w:World}{R:Ending→World→Prop}
 (h :
 CallW Tryz.prog 107 #[slice aa an ac,func (Fn.func f) fi ca] w fun e1 w1 =>
 ∃n1,e1=returned (int i64 n1)∧
 KpL [] w w1∧
 R (returned (Value.bool (decide (0≤n1)))) w1):Calls Tryz.prog 47 #[slice aa an ac,func (Fn.func f) fi ca] w R :=
 fnc0 (an:={}) (args:=[.a (.c (.v (.slice aa an ac))),.a (.c (.v (.func (.func f) fi ca)))]) Tryz_ok Tryz.func47 (by kernel_rfl) rfl rfl h
theorem room_vc{s:Nat}{w:World}{R:Ending→World→Prop}
 (h :
 CallW Tryz.prog 45 #[pointer (some (Addr.mk s 0 none))] w fun e1 w1 =>
 ∃n1,e1=returned (int i64 n1)∧
 KpL [] w w1∧
 (n1≠0→
 R (returned (tuple #[int i64 0,int i64 n1])) w1)∧
 (¬n1≠0→
 ∃a1,LdA w1 ((Addr.mk s 0 none).add 0) [pointer a1]∧
 ∃d1,a1=some d1∧
 ∃a2,LdA w1 (d1.add 0) [pointer a2]∧
 ∃n2,LdA w1 ((Addr.mk s 0 none).add 5) [int i64 n2]∧
 ∀w2,KpL [] w1 w2→
 CallW Tryz.prog 50 #[pointer a2] w2 fun e2 w3 =>
 ∃n3,e2=returned (int i64 n3)∧
 KpL [] w2 w3∧
 InI i64 (n3 - n2)∧
 R (returned (tuple #[int i64 (n3 - n2),int i64 0])) w3)):Calls Tryz.prog 29 #[pointer (some (Addr.mk s 0 none))] w R :=
 fnc0 (an:={}) (args:=[.a (.c (.v (.pointer (some ⟨s,0,none⟩))))]) Tryz_ok Tryz.func29 (by kernel_rfl) rfl rfl h
theorem tokens_vc{s:Nat}{w:World}{R:Ending→World→Prop}
 (h :
 CallW Tryz.prog 45 #[pointer (some (Addr.mk s 0 none))] w fun e1 w1 =>
 ∃n1,e1=returned (int i64 n1)∧
 KpL [] w w1∧
 (n1≠0→
 R (returned (tuple #[slice none 0 0,int i64 n1])) w1)∧
 (¬n1≠0→
 ∃a1 k1 k2,LdA w1 ((Addr.mk s 0 none).add 4) [slice a1 k1 k2]∧
 ∃(P1:List Value→World→Prop) (P2:List Value→World→Nat),P1 [slice none 0 0,int i64 0] w1∧
 ∀a2 k3 k4 n2 w2,P1 [slice a2 k3 k4,int i64 n2] w2→
 (n2<(↑k1:Int)→
 ∃d1,a1=some d1∧
 0≤n2∧
 n2<(↑k1:Int)∧
 ∃s1 n3,LdA w2 (d1.add (n2.toNat*2)) [string s1,int i64 n3]∧
 ∀k5,w2.heap.size≤k5→
 ∀k6,w2.heap.size≤k6→
 ∀w3,KpL [] w2 w3→
 Hb w3 k6 #[string s1] 9→
 Ev Tryz.prog (Builtin.append_ #[87,87] 87 #[slice a2 k3 k4,slice (some (Addr.mk k6 0 none)) 1 1]) w3 fun y1 w4 =>
 ∃a3 k7 k8,y1=slice a3 k7 k8∧
 ∃l1,KpL l1 w3 w4∧
 (NotIn k6 l1∧
 NotIn k5 l1)∧
 InI i64 (n2+1)∧
 P1 [slice a3 k7 k8,int i64 (n2+1)] w4∧
 P2 [slice a3 k7 k8,int i64 (n2+1)] w4<P2 [slice a2 k3 k4,int i64 n2] w2)∧
 (¬n2<(↑k1:Int)→
 R (returned (tuple #[slice a2 k3 k4,int i64 0])) w2))):Calls Tryz.prog 30 #[pointer (some (Addr.mk s 0 none))] w R :=
 fnc0 (an:={ loops:=[⟨6,[5,18],[7,19,20,21,22,23,24,25,26,27],[]⟩] }) (args:=[.a (.c (.v (.pointer (some ⟨s,0,none⟩))))]) Tryz_ok Tryz.func30 (by kernel_rfl) rfl rfl h
theorem arrayR_vc{s:Nat}{r:Nat}{w:World}{R:Ending→World→Prop}
 (h :
 ∃a1 k1 k2,LdA w ((Addr.mk s 0 none).add 2) [slice a1 k1 k2]∧
 InI i64 ((↑k1:Int) - (1:Int))∧
 ∀w1,KpL [] w w1→
 CallW Tryz.prog 131 #[pointer (some (Addr.mk r 0 none))] w1 fun e1 w2 =>
 ∃n1,e1=returned (int u64 n1)∧
 ∃l1,KpL l1 w1 w2∧
 (LdA w2 ((Addr.mk s 0 none).add 2) [slice a1 k1 k2]∧
 True)∧
 ∃n2,Pv Tryz.prog (Builtin.min_ #[(119:Nat),(119:Nat)] (119:Nat) #[int u64 n1,int u64 (u64.wrap ((↑k1:Int) - (1:Int)))]) (int u64 n2)∧
 R (returned (int i64 (i64.wrap n2))) w2):Calls Tryz.prog 129 #[pointer (some (Addr.mk s 0 none)),pointer (some (Addr.mk r 0 none))] w R :=
 fnc0 (an:={ muts:=[131] }) (args:=[.a (.c (.v (.pointer (some ⟨s,0,none⟩)))),.a (.c (.v (.pointer (some ⟨r,0,none⟩))))]) Tryz_ok Tryz.func129 (by kernel_rfl) rfl rfl h
theorem atR_vc{s:Nat}{r:Nat}{x:Int}{w:World}{R:Ending→World→Prop}
 (h :
 ∃a1 k1 k2,LdA w ((Addr.mk s 0 none).add 2) [slice a1 k1 k2]∧
 ∃d1,a1=some d1∧
 0≤x∧
 x<(↑k1:Int)∧
 ∃a2 k3 k4,LdA w (((d1.add (x.toNat*4)).add 1).add 0) [slice a2 k3 k4]∧
 ∃(P1:List Value→World→Prop) (P2:List Value→World→Nat),P1 [slice none 0 0,int i64 0] w∧
 ∀a3 k5 k6 n1 w1,P1 [slice a3 k5 k6,int i64 n1] w1→
 (n1<(↑k3:Int)→
 CallW Tryz.prog 127 #[pointer (some (Addr.mk r 0 none))] w1 fun e1 w2 =>
 ∃n2,e1=returned (int i64 n2)∧
 ∃l1,KpL l1 w1 w2∧
 ∀k7,w2.heap.size≤k7→
 ∀w3,KpL [] w2 w3→
 Hb w3 k7 #[int i64 n2] 3→
 Ev Tryz.prog (Builtin.append_ #[78,78] 78 #[slice a3 k5 k6,slice (some (Addr.mk k7 0 none)) 1 1]) w3 fun y1 w4 =>
 ∃a4 k8 k9,y1=slice a4 k8 k9∧
 ∃l2,KpL l2 w3 w4∧
 NotIn k7 l2∧
 InI i64 (n1+1)∧
 (Hb w4 k7 #[int i64 n2] 3→
 P1 [slice a4 k8 k9,int i64 (n1+1)] w4∧
 P2 [slice a4 k8 k9,int i64 (n1+1)] w4<P2 [slice a3 k5 k6,int i64 n1] w1))∧
 (¬n1<(↑k3:Int)→
 R (returned (slice a3 k5 k6)) w1)):Calls Tryz.prog 130 #[pointer (some (Addr.mk s 0 none)),pointer (some (Addr.mk r 0 none)),int i64 x] w R :=
 fnc0 (an:={ loops:=[⟨3,[7,18],[19,20,21,22,23,24,25],[]⟩],muts:=[127],all:=true }) (args:=[.a (.c (.v (.pointer (some ⟨s,0,none⟩)))),.a (.c (.v (.pointer (some ⟨r,0,none⟩)))),.a (.c (.v (.int .i64 x)))]) Tryz_ok Tryz.func130 (by kernel_rfl) rfl rfl h
theorem sBytes_vc{s:Nat}{tok:ByteArray}{stp:Int}{arn:ByteArray}{ca:Option Addr}{cn cc:Nat}{w:World}{R:Ending→World→Prop}
 (h :
 ∀k1,w.heap.size≤k1→
 ∀w1,KpL [] w w1→
 Hb w1 k1 #[string tok,int i64 stp,string arn,slice ca cn cc] 48→
 CallW Tryz.prog 113 #[slice none 0 0,string tok] w1 fun e1 w2 =>
 ∃a1 k2 k3,e1=returned (slice a1 k2 k3)∧
 ∃l1,KpL l1 w1 w2∧
 NotIn k1 l1∧
 (Hb w2 k1 #[string tok,int i64 stp,string arn,slice ca cn cc] 48→
 (LdA w2 (Addr.mk k1 (0+2) none) [string arn]∧
 LdA w2 (Addr.mk k1 (0+1) none) [int i64 stp]∧
 True)∧
 (Hb w2 k1 #[string tok,int i64 stp,string arn,slice ca cn cc] 48→
 CallW Tryz.prog 112 #[slice a1 k2 k3,int i64 stp] w2 fun e2 w3 =>
 ∃a2 k4 k5,e2=returned (slice a2 k4 k5)∧
 ∃l2,KpL l2 w2 w3∧
 NotIn k1 l2∧
 (Hb w3 k1 #[string tok,int i64 stp,string arn,slice ca cn cc] 48→
 (LdA w3 (Addr.mk k1 (0+2) none) [string arn]∧
 True)∧
 (Hb w3 k1 #[string tok,int i64 stp,string arn,slice ca cn cc] 48→
 CallW Tryz.prog 103 #[pointer (some (Addr.mk s 0 none)),string arn] w3 fun e3 w4 =>
 ∃n1,e3=returned (int i64 n1)∧
 KpL [] w3 w4∧
 (Hb w4 k1 #[string tok,int i64 stp,string arn,slice ca cn cc] 48→
 CallW Tryz.prog 111 #[slice a2 k4 k5,int u64 (u64.wrap n1)] w4 fun e4 w5 =>
 ∃a3 k6 k7,e4=returned (slice a3 k6 k7)∧
 ∃l3,KpL l3 w4 w5∧
 NotIn k1 l3∧
 (Hb w5 k1 #[string tok,int i64 stp,string arn,slice ca cn cc] 48→
 CallW Tryz.prog 111 #[slice a3 k6 k7,int u64 (u64.wrap (↑cn:Int))] w5 fun e5 w6 =>
 ∃a4 k8 k9,e5=returned (slice a4 k8 k9)∧
 ∃l4,KpL l4 w5 w6∧
 NotIn k1 l4∧
 ∃(P1:List Value→World→Prop) (P2:List Value→World→Nat),(Hb w6 k1 #[string tok,int i64 stp,string arn,slice ca cn cc] 48→
 P1 [slice a4 k8 k9,int i64 0] w6)∧
 ∀a5 k10 k11 n2 w7,P1 [slice a5 k10 k11,int i64 n2] w7→
 (n2<(↑cn:Int)→
 ∃d1,ca=some d1∧
 0≤n2∧
 n2<(↑cn:Int)∧
 (Hb w7 k1 #[string tok,int i64 stp,string arn,slice ca cn cc] 48→
 ∃a6 k12 k13 a7 k14 k15,LdA w7 (d1.add (n2.toNat*2)) [slice a6 k12 k13,slice a7 k14 k15]∧
 ∀k16,w7.heap.size≤k16→
 ∃(P3:List Value→World→Prop) (P4:List Value→World→Nat),(∀w8,KpL [] w7 w8→
 Hb w8 k16 #[slice a6 k12 k13,slice a7 k14 k15] 81∧
 Hb w8 k1 #[string tok,int i64 stp,string arn,slice ca cn cc] 48→
 P3 [slice a5 k10 k11,int i64 0] w8)∧
 ∀a8 k17 k18 n3 w9,P3 [slice a8 k17 k18,int i64 n3] w9→
 (n3<(↑k12:Int)→
 ∃d2,a6=some d2∧
 0≤n3∧
 n3<(↑k12:Int)∧
 (Hb w9 k16 #[slice a6 k12 k13,slice a7 k14 k15] 81∧
 Hb w9 k1 #[string tok,int i64 stp,string arn,slice ca cn cc] 48→
 ∃n4,LdA w9 (d2.add (n3.toNat*1)) [int i64 n4]∧
 (Hb w9 k16 #[slice a6 k12 k13,slice a7 k14 k15] 81∧
 Hb w9 k1 #[string tok,int i64 stp,string arn,slice ca cn cc] 48→
 CallW Tryz.prog 112 #[slice a8 k17 k18,int i64 n4] w9 fun e6 w10 =>
 ∃a9 k19 k20,e6=returned (slice a9 k19 k20)∧
 ∃l5,KpL l5 w9 w10∧
 (NotIn k16 l5∧
 NotIn k1 l5)∧
 InI i64 (n3+1)∧
 (Hb w10 k16 #[slice a6 k12 k13,slice a7 k14 k15] 81∧
 Hb w10 k1 #[string tok,int i64 stp,string arn,slice ca cn cc] 48→
 P3 [slice a9 k19 k20,int i64 (n3+1)] w10∧
 P4 [slice a9 k19 k20,int i64 (n3+1)] w10<P4 [slice a8 k17 k18,int i64 n3] w9))))∧
 (¬n3<(↑k12:Int)→
 Hb w9 k16 #[slice a6 k12 k13,slice a7 k14 k15] 81∧
 Hb w9 k1 #[string tok,int i64 stp,string arn,slice ca cn cc] 48→
 CallW Tryz.prog 114 #[slice a8 k17 k18,slice a7 k14 k15] w9 fun e7 w11 =>
 ∃a10 k21 k22,e7=returned (slice a10 k21 k22)∧
 ∃l6,KpL l6 w9 w11∧
 (NotIn k16 l6∧
 NotIn k1 l6)∧
 InI i64 (n2+1)∧
 (Hb w11 k16 #[slice a6 k12 k13,slice a7 k14 k15] 81∧
 Hb w11 k1 #[string tok,int i64 stp,string arn,slice ca cn cc] 48→
 P1 [slice a10 k21 k22,int i64 (n2+1)] w11∧
 P2 [slice a10 k21 k22,int i64 (n2+1)] w11<P2 [slice a5 k10 k11,int i64 n2] w7))))∧
 (¬n2<(↑cn:Int)→
 Hb w7 k1 #[string tok,int i64 stp,string arn,slice ca cn cc] 48→
 R (returned (slice a5 k10 k11)) w7)))))))):Calls Tryz.prog 53 #[pointer (some (Addr.mk s 0 none)),agg #[string tok,int i64 stp,string arn,slice ca cn cc]] w R :=
 fnc0 (an:={ loops:=[⟨7,[5,38],[9,39,40,41,42,43,44,45],[]⟩,⟨4,[5,31],[7,9,32,33,34,35,36,37,38,39,40,41,42,43,44,45,46,47,48,49,50],[]⟩],muts:=[111,112,113,114],all:=true }) (args:=[.a (.c (.v (.pointer (some ⟨s,0,none⟩)))),.a (.agg [.v (.string tok),.v (.int .i64 stp),.v (.string arn),.v (.slice ca cn cc)])]) Tryz_ok Tryz.func53 (by kernel_rfl) rfl rfl h
theorem sBase_vc{s:Nat}{w:World}{R:Ending→World→Prop}
 (h :
 ∃a1 k1 k2,LdA w ((Addr.mk s 0 none).add 2) [slice a1 k1 k2]∧
 CallW Tryz.prog 111 #[slice none (0:Nat) (0:Nat),int u64 (u64.wrap (↑k1:Int))] w fun e1 w1 =>
 ∃a2 k3 k4,e1=returned (slice a2 k3 k4)∧
 ∃l1,KpL l1 w w1∧
 ∃a3 k5 k6,LdA w1 ((Addr.mk s 0 none).add 2) [slice a3 k5 k6]∧
 ∃(P1:List Value→World→Prop) (P2:List Value→World→Nat),P1 [slice a2 k3 k4,int i64 0] w1∧
 ∀a4 k7 k8 n1 w2,P1 [slice a4 k7 k8,int i64 n1] w2→
 (n1<(↑k5:Int)→
 ∃d1,a3=some d1∧
 0≤n1∧
 n1<(↑k5:Int)∧
 ∃s1 a5 k9 k10 a6 k11 k12 a7 k13 k14,LdA w2 (d1.add (n1.toNat*4)) [string s1,slice a5 k9 k10,slice a6 k11 k12,slice a7 k13 k14]∧
 ∀k15,w2.heap.size≤k15→
 ∀w3,KpL [] w2 w3→
 Hb w3 k15 #[string s1,slice a5 k9 k10,slice a6 k11 k12,slice a7 k13 k14] 60→
 CallW Tryz.prog 113 #[slice a4 k7 k8,string s1] w3 fun e2 w4 =>
 ∃a8 k16 k17,e2=returned (slice a8 k16 k17)∧
 ∃l2,KpL l2 w3 w4∧
 NotIn k15 l2∧
 (Hb w4 k15 #[string s1,slice a5 k9 k10,slice a6 k11 k12,slice a7 k13 k14] 60→
 (LdA w4 (Addr.mk k15 (0+1+0) none) [slice a5 k9 k10]∧
 True)∧
 (Hb w4 k15 #[string s1,slice a5 k9 k10,slice a6 k11 k12,slice a7 k13 k14] 60→
 CallW Tryz.prog 111 #[slice a8 k16 k17,int u64 (u64.wrap (↑k9:Int))] w4 fun e3 w5 =>
 ∃a9 k18 k19,e3=returned (slice a9 k18 k19)∧
 ∃l3,KpL l3 w4 w5∧
 NotIn k15 l3∧
 ∃(P3:List Value→World→Prop) (P4:List Value→World→Nat),(Hb w5 k15 #[string s1,slice a5 k9 k10,slice a6 k11 k12,slice a7 k13 k14] 60→
 P3 [slice a9 k18 k19,int i64 0] w5)∧
 ∀a10 k20 k21 n2 w6,P3 [slice a10 k20 k21,int i64 n2] w6→
 (n2<(↑k9:Int)→
 ∃d2,a5=some d2∧
 0≤n2∧
 n2<(↑k9:Int)∧
 (Hb w6 k15 #[string s1,slice a5 k9 k10,slice a6 k11 k12,slice a7 k13 k14] 60→
 ∃s2 n3 n4,LdA w6 (d2.add (n2.toNat*3)) [string s2,int i64 n3,int i64 n4]∧
 ∀k22,w6.heap.size≤k22→
 ∀w7,KpL [] w6 w7→
 Hb w7 k22 #[string s2,int i64 n3,int i64 n4] 153∧
 Hb w7 k15 #[string s1,slice a5 k9 k10,slice a6 k11 k12,slice a7 k13 k14] 60→
 CallW Tryz.prog 113 #[slice a10 k20 k21,string s2] w7 fun e4 w8 =>
 ∃a11 k23 k24,e4=returned (slice a11 k23 k24)∧
 ∃l4,KpL l4 w7 w8∧
 (NotIn k22 l4∧
 NotIn k15 l4)∧
 (Hb w8 k22 #[string s2,int i64 n3,int i64 n4] 153∧
 Hb w8 k15 #[string s1,slice a5 k9 k10,slice a6 k11 k12,slice a7 k13 k14] 60→
 (LdA w8 (Addr.mk k22 (0+2) none) [int i64 n4]∧
 LdA w8 (Addr.mk k22 (0+1) none) [int i64 n3]∧
 True)∧
 (Hb w8 k22 #[string s2,int i64 n3,int i64 n4] 153∧
 Hb w8 k15 #[string s1,slice a5 k9 k10,slice a6 k11 k12,slice a7 k13 k14] 60→
 CallW Tryz.prog 112 #[slice a11 k23 k24,int i64 n3] w8 fun e5 w9 =>
 ∃a12 k25 k26,e5=returned (slice a12 k25 k26)∧
 ∃l5,KpL l5 w8 w9∧
 (NotIn k22 l5∧
 NotIn k15 l5)∧
 (Hb w9 k22 #[string s2,int i64 n3,int i64 n4] 153∧
 Hb w9 k15 #[string s1,slice a5 k9 k10,slice a6 k11 k12,slice a7 k13 k14] 60→
 (LdA w9 (Addr.mk k22 (0+2) none) [int i64 n4]∧
 True)∧
 (Hb w9 k22 #[string s2,int i64 n3,int i64 n4] 153∧
 Hb w9 k15 #[string s1,slice a5 k9 k10,slice a6 k11 k12,slice a7 k13 k14] 60→
 CallW Tryz.prog 112 #[slice a12 k25 k26,int i64 n4] w9 fun e6 w10 =>
 ∃a13 k27 k28,e6=returned (slice a13 k27 k28)∧
 ∃l6,KpL l6 w9 w10∧
 (NotIn k22 l6∧
 NotIn k15 l6)∧
 InI i64 (n2+1)∧
 (Hb w10 k22 #[string s2,int i64 n3,int i64 n4] 153∧
 Hb w10 k15 #[string s1,slice a5 k9 k10,slice a6 k11 k12,slice a7 k13 k14] 60→
 P3 [slice a13 k27 k28,int i64 (n2+1)] w10∧
 P4 [slice a13 k27 k28,int i64 (n2+1)] w10<P4 [slice a10 k20 k21,int i64 n2] w6)))))))∧
 (¬n2<(↑k9:Int)→
 Hb w6 k15 #[string s1,slice a5 k9 k10,slice a6 k11 k12,slice a7 k13 k14] 60→
 CallW Tryz.prog 111 #[slice a10 k20 k21,int u64 (u64.wrap (↑k11:Int))] w6 fun e7 w11 =>
 ∃a14 k29 k30,e7=returned (slice a14 k29 k30)∧
 ∃l7,KpL l7 w6 w11∧
 NotIn k15 l7∧
 ∃(P5:List Value→World→Prop) (P6:List Value→World→Nat),(Hb w11 k15 #[string s1,slice a5 k9 k10,slice a6 k11 k12,slice a7 k13 k14] 60→
 P5 [slice a14 k29 k30,int i64 0] w11)∧
 ∀a15 k31 k32 n5 w12,P5 [slice a15 k31 k32,int i64 n5] w12→
 (n5<(↑k11:Int)→
 ∃d3,a6=some d3∧
 0≤n5∧
 n5<(↑k11:Int)∧
 (Hb w12 k15 #[string s1,slice a5 k9 k10,slice a6 k11 k12,slice a7 k13 k14] 60→
 ∃s3 n6,LdA w12 (d3.add (n5.toNat*2)) [string s3,int i64 n6]∧
 ∀k33,w12.heap.size≤k33→
 (∀w13,KpL [] w12 w13→
 Hb w13 k33 #[string s3,int i64 n6] 156∧
 Hb w13 k15 #[string s1,slice a5 k9 k10,slice a6 k11 k12,slice a7 k13 k14] 60→
 CallW Tryz.prog 113 #[slice a15 k31 k32,string s3] w13 fun e8 w14 =>
 ∃a16 k34 k35,e8=returned (slice a16 k34 k35)∧
 ∃l8,KpL l8 w13 w14∧
 (NotIn k33 l8∧
 NotIn k15 l8)∧
 (Hb w14 k33 #[string s3,int i64 n6] 156∧
 Hb w14 k15 #[string s1,slice a5 k9 k10,slice a6 k11 k12,slice a7 k13 k14] 60→
 (LdA w14 (Addr.mk k33 (0+1) none) [int i64 n6]∧
 True)∧
 ∀k36,w14.heap.size≤k36→
 ∀w15,KpL [] w14 w15→
 Hb w15 k36 #[int u8 (u8.wrap n6)] 5∧
 Hb w15 k33 #[string s3,int i64 n6] 156∧
 Hb w15 k15 #[string s1,slice a5 k9 k10,slice a6 k11 k12,slice a7 k13 k14] 60→
 Ev Tryz.prog (Builtin.append_ #[33,33] 33 #[slice a16 k34 k35,slice (some (Addr.mk k36 0 none)) 1 1]) w15 fun y1 w16 =>
 ∃a17 k37 k38,y1=slice a17 k37 k38∧
 ∃l9,KpL l9 w15 w16∧
 (NotIn k36 l9∧
 NotIn k33 l9∧
 NotIn k15 l9)∧
 InI i64 (n5+1)∧
 (Hb w16 k36 #[int u8 (u8.wrap n6)] 5∧
 Hb w16 k33 #[string s3,int i64 n6] 156∧
 Hb w16 k15 #[string s1,slice a5 k9 k10,slice a6 k11 k12,slice a7 k13 k14] 60→
 P5 [slice a17 k37 k38,int i64 (n5+1)] w16∧
 P6 [slice a17 k37 k38,int i64 (n5+1)] w16<P6 [slice a15 k31 k32,int i64 n5] w12)))∧
 ∀k39,w12.heap.size≤k39→
 ∀w17,KpL [] w12 w17→
 Hb w17 k39 #[int u8 (u8.wrap n6)] 5∧
 Hb w17 k33 #[string s3,int i64 n6] 156∧
 Hb w17 k15 #[string s1,slice a5 k9 k10,slice a6 k11 k12,slice a7 k13 k14] 60→
 CallW Tryz.prog 113 #[slice a15 k31 k32,string s3] w17 fun e9 w18 =>
 ∃a18 k40 k41,e9=returned (slice a18 k40 k41)∧
 ∃l10,KpL l10 w17 w18∧
 (NotIn k39 l10∧
 NotIn k33 l10∧
 NotIn k15 l10)∧
 (Hb w18 k39 #[int u8 (u8.wrap n6)] 5∧
 Hb w18 k33 #[string s3,int i64 n6] 156∧
 Hb w18 k15 #[string s1,slice a5 k9 k10,slice a6 k11 k12,slice a7 k13 k14] 60→
 Ev Tryz.prog (Builtin.append_ #[33,33] 33 #[slice a18 k40 k41,slice (some (Addr.mk k39 0 none)) 1 1]) w18 fun y2 w19 =>
 ∃a19 k42 k43,y2=slice a19 k42 k43∧
 ∃l11,KpL l11 w18 w19∧
 (NotIn k39 l11∧
 NotIn k33 l11∧
 NotIn k15 l11)∧
 InI i64 (n5+1)∧
 (Hb w19 k39 #[int u8 (u8.wrap n6)] 5∧
 Hb w19 k33 #[string s3,int i64 n6] 156∧
 Hb w19 k15 #[string s1,slice a5 k9 k10,slice a6 k11 k12,slice a7 k13 k14] 60→
 P5 [slice a19 k42 k43,int i64 (n5+1)] w19∧
 P6 [slice a19 k42 k43,int i64 (n5+1)] w19<P6 [slice a15 k31 k32,int i64 n5] w12))))∧
 (¬n5<(↑k11:Int)→
 InI i64 (n1+1)∧
 (Hb w12 k15 #[string s1,slice a5 k9 k10,slice a6 k11 k12,slice a7 k13 k14] 60→
 P1 [slice a15 k31 k32,int i64 (n1+1)] w12∧
 P2 [slice a15 k31 k32,int i64 (n1+1)] w12<P2 [slice a4 k7 k8,int i64 n1] w2))))))∧
 (¬n1<(↑k5:Int)→
 ∃a20 k44 k45,LdA w2 ((Addr.mk s 0 none).add 4) [slice a20 k44 k45]∧
 CallW Tryz.prog 111 #[slice a4 k7 k8,int u64 (u64.wrap (↑k44:Int))] w2 fun e10 w20 =>
 ∃a21 k46 k47,e10=returned (slice a21 k46 k47)∧
 ∃l12,KpL l12 w2 w20∧
 ∃a22 k48 k49,LdA w20 ((Addr.mk s 0 none).add 4) [slice a22 k48 k49]∧
 ∃(P7:List Value→World→Prop) (P8:List Value→World→Nat),P7 [slice a21 k46 k47,int i64 0] w20∧
 ∀a23 k50 k51 n7 w21,P7 [slice a23 k50 k51,int i64 n7] w21→
 (n7<(↑k48:Int)→
 ∃d4,a22=some d4∧
 0≤n7∧
 n7<(↑k48:Int)∧
 ∃s4 n8,LdA w21 (d4.add (n7.toNat*2)) [string s4,int i64 n8]∧
 ∀k52,w21.heap.size≤k52→
 ∀w22,KpL [] w21 w22→
 Hb w22 k52 #[string s4,int i64 n8] 112→
 CallW Tryz.prog 113 #[slice a23 k50 k51,string s4] w22 fun e11 w23 =>
 ∃a24 k53 k54,e11=returned (slice a24 k53 k54)∧
 ∃l13,KpL l13 w22 w23∧
 NotIn k52 l13∧
 (Hb w23 k52 #[string s4,int i64 n8] 112→
 (LdA w23 (Addr.mk k52 (0+1) none) [int i64 n8]∧
 True)∧
 (Hb w23 k52 #[string s4,int i64 n8] 112→
 CallW Tryz.prog 112 #[slice a24 k53 k54,int i64 n8] w23 fun e12 w24 =>
 ∃a25 k55 k56,e12=returned (slice a25 k55 k56)∧
 ∃l14,KpL l14 w23 w24∧
 NotIn k52 l14∧
 InI i64 (n7+1)∧
 (Hb w24 k52 #[string s4,int i64 n8] 112→
 P7 [slice a25 k55 k56,int i64 (n7+1)] w24∧
 P8 [slice a25 k55 k56,int i64 (n7+1)] w24<P8 [slice a23 k50 k51,int i64 n7] w21))))∧
 (¬n7<(↑k48:Int)→
 ∃m1,LdA w21 ((Addr.mk s 0 none).add 3) [map m1]∧
 Ev Tryz.prog (Instr.range 114 (map m1)) w21 fun y3 w25 =>
 ∃d5,y3=pointer (some d5)∧
 ∃l15,KpL l15 w21 w25∧
 ∃(P9:List Value→World→Prop) (P10:List Value→World→Nat),P9 [slice none 0 0] w25∧
 ∀a26 k57 k58 w26,P9 [slice a26 k57 k58] w26→
 Ev Tryz.prog (Instr.next (pointer (some d5)) false 0) w26 fun y4 w27 =>
 (y4=tuple #[Value.bool false]∧
 ∃l16,KpL l16 w26 w27∧
 CallW Tryz.prog 118 (#[slice a26 k57 k58,func (Fn.func 119) #[] #[]]) w27 fun e13 w28 =>
 e13=returned (tuple #[])∧
 ∃l17,KpL l17 w27 w28∧
 CallW Tryz.prog 111 #[slice a23 k50 k51,int u64 (u64.wrap (↑k57:Int))] w28 fun e14 w29 =>
 ∃a27 k59 k60,e14=returned (slice a27 k59 k60)∧
 ∃l18,KpL l18 w28 w29∧
 ∃(P11:List Value→World→Prop) (P12:List Value→World→Nat),P11 [slice a27 k59 k60,int i64 0] w29∧
 ∀a28 k61 k62 n9 w30,P11 [slice a28 k61 k62,int i64 n9] w30→
 (n9<(↑k57:Int)→
 ∃d6,a26=some d6∧
 0≤n9∧
 n9<(↑k57:Int)∧
 ∃n10 n11 n12 n13 n14,LdA w30 (d6.add (n9.toNat*5)) [int i64 n10,int i64 n11,int i64 n12,int i64 n13,int i64 n14]∧
 ∀k63,w30.heap.size≤k63→
 ∀w31,KpL [] w30 w31→
 Hb w31 k63 #[int i64 n10,int i64 n11,int i64 n12,int i64 n13,int i64 n14] 143→
 CallW Tryz.prog 111 #[slice a28 k61 k62,int u64 (u64.wrap n10)] w31 fun e15 w32 =>
 ∃a29 k64 k65,e15=returned (slice a29 k64 k65)∧
 ∃l19,KpL l19 w31 w32∧
 NotIn k63 l19∧
 ∃a30 k66 k67,LdA w32 ((Addr.mk s 0 none).add 2) [slice a30 k66 k67]∧
 ∃d7,a30=some d7∧
 0≤n10∧
 n10<(↑k66:Int)∧
 ∃a31 k68 k69,LdA w32 (((d7.add (n10.toNat*4)).add 1).add 0) [slice a31 k68 k69]∧
 ∃(P13:List Value→World→Prop) (P14:List Value→World→Nat),(∀w33,KpL [] w32 w33→
 Hb w33 k63 #[int i64 n10,int i64 n11,int i64 n12,int i64 n13,int i64 n14] 143→
 P13 [slice a29 k64 k65,int i64 0] w33)∧
 ∀a32 k70 k71 n15 w34,P13 [slice a32 k70 k71,int i64 n15] w34→
 (n15<(↑k68:Int)→
 0≤n15∧
 n15<(↑(4:Nat):Int)∧
 (Hb w34 k63 #[int i64 n10,int i64 n11,int i64 n12,int i64 n13,int i64 n14] 143→
 ∃n16,LdA w34 ((Addr.mk k63 (0+1) none).add (n15.toNat*1)) [int i64 n16]∧
 (Hb w34 k63 #[int i64 n10,int i64 n11,int i64 n12,int i64 n13,int i64 n14] 143→
 CallW Tryz.prog 112 #[slice a32 k70 k71,int i64 n16] w34 fun e16 w35 =>
 ∃a33 k72 k73,e16=returned (slice a33 k72 k73)∧
 ∃l20,KpL l20 w34 w35∧
 NotIn k63 l20∧
 InI i64 (n15+1)∧
 (Hb w35 k63 #[int i64 n10,int i64 n11,int i64 n12,int i64 n13,int i64 n14] 143→
 P13 [slice a33 k72 k73,int i64 (n15+1)] w35∧
 P14 [slice a33 k72 k73,int i64 (n15+1)] w35<P14 [slice a32 k70 k71,int i64 n15] w34))))∧
 (¬n15<(↑k68:Int)→
 ∃m2,LdA w34 ((Addr.mk s 0 none).add 3) [map m2]∧
 ∃m3,LdA w34 ((Addr.mk s 0 none).add 3) [map m3]∧
 (∀w36,KpL [] w34 w36→
 Hb w36 k63 #[int i64 n10,int i64 n11,int i64 n12,int i64 n13,int i64 n14] 143→
 Ev Tryz.prog (Instr.lookup 114 (map m2) (agg #[int i64 n10,int i64 n11,int i64 n12,int i64 n13,int i64 n14]) false) w36 fun y5 w37 =>
 ∃n17 a34 k74 k75,y5=agg #[int i64 n17,slice a34 k74 k75]∧
 ∃l21,KpL l21 w36 w37∧
 NotIn k63 l21∧
 (Hb w37 k63 #[int i64 n10,int i64 n11,int i64 n12,int i64 n13,int i64 n14] 143→
 (LdA w37 (Addr.mk k63 0 none) [int i64 n10,int i64 n11,int i64 n12,int i64 n13,int i64 n14]∧
 LdA w37 ((Addr.mk s 0 none).add 3) [map m3]∧
 True)∧
 (Hb w37 k63 #[int i64 n10,int i64 n11,int i64 n12,int i64 n13,int i64 n14] 143→
 CallW Tryz.prog 111 #[slice a32 k70 k71,int u64 (u64.wrap n17)] w37 fun e17 w38 =>
 ∃a35 k76 k77,e17=returned (slice a35 k76 k77)∧
 ∃l22,KpL l22 w37 w38∧
 NotIn k63 l22∧
 (Hb w38 k63 #[int i64 n10,int i64 n11,int i64 n12,int i64 n13,int i64 n14] 143→
 (LdA w38 (Addr.mk k63 0 none) [int i64 n10,int i64 n11,int i64 n12,int i64 n13,int i64 n14]∧
 LdA w38 ((Addr.mk s 0 none).add 3) [map m3]∧
 True)∧
 (Hb w38 k63 #[int i64 n10,int i64 n11,int i64 n12,int i64 n13,int i64 n14] 143→
 Ev Tryz.prog (Instr.lookup 114 (map m3) (agg #[int i64 n10,int i64 n11,int i64 n12,int i64 n13,int i64 n14]) false) w38 fun y6 w39 =>
 ∃n18 a36 k78 k79,y6=agg #[int i64 n18,slice a36 k78 k79]∧
 ∃l23,KpL l23 w38 w39∧
 NotIn k63 l23∧
 (Hb w39 k63 #[int i64 n10,int i64 n11,int i64 n12,int i64 n13,int i64 n14] 143→
 CallW Tryz.prog 114 #[slice a35 k76 k77,slice a36 k78 k79] w39 fun e18 w40 =>
 ∃a37 k80 k81,e18=returned (slice a37 k80 k81)∧
 ∃l24,KpL l24 w39 w40∧
 NotIn k63 l24∧
 InI i64 (n9+1)∧
 (Hb w40 k63 #[int i64 n10,int i64 n11,int i64 n12,int i64 n13,int i64 n14] 143→
 P11 [slice a37 k80 k81,int i64 (n9+1)] w40∧
 P12 [slice a37 k80 k81,int i64 (n9+1)] w40<P12 [slice a28 k61 k62,int i64 n9] w30)))))∧
 (Hb w37 k63 #[int i64 n10,int i64 n11,int i64 n12,int i64 n13,int i64 n14] 143→
 Ev Tryz.prog (Instr.lookup 114 (map m3) (agg #[int i64 n10,int i64 n11,int i64 n12,int i64 n13,int i64 n14]) false) w37 fun y7 w41 =>
 ∃n19 a38 k82 k83,y7=agg #[int i64 n19,slice a38 k82 k83]∧
 ∃l25,KpL l25 w37 w41∧
 NotIn k63 l25∧
 (Hb w41 k63 #[int i64 n10,int i64 n11,int i64 n12,int i64 n13,int i64 n14] 143→
 CallW Tryz.prog 111 #[slice a32 k70 k71,int u64 (u64.wrap n17)] w41 fun e19 w42 =>
 ∃a39 k84 k85,e19=returned (slice a39 k84 k85)∧
 ∃l26,KpL l26 w41 w42∧
 NotIn k63 l26∧
 (Hb w42 k63 #[int i64 n10,int i64 n11,int i64 n12,int i64 n13,int i64 n14] 143→
 CallW Tryz.prog 114 #[slice a39 k84 k85,slice a38 k82 k83] w42 fun e20 w43 =>
 ∃a40 k86 k87,e20=returned (slice a40 k86 k87)∧
 ∃l27,KpL l27 w42 w43∧
 NotIn k63 l27∧
 InI i64 (n9+1)∧
 (Hb w43 k63 #[int i64 n10,int i64 n11,int i64 n12,int i64 n13,int i64 n14] 143→
 P11 [slice a40 k86 k87,int i64 (n9+1)] w43∧
 P12 [slice a40 k86 k87,int i64 (n9+1)] w43<P12 [slice a28 k61 k62,int i64 n9] w30))))))∧
 ∀w44,KpL [] w34 w44→
 Hb w44 k63 #[int i64 n10,int i64 n11,int i64 n12,int i64 n13,int i64 n14] 143→
 Ev Tryz.prog (Instr.lookup 114 (map m3) (agg #[int i64 n10,int i64 n11,int i64 n12,int i64 n13,int i64 n14]) false) w44 fun y8 w45 =>
 ∃n20 a41 k88 k89,y8=agg #[int i64 n20,slice a41 k88 k89]∧
 ∃l28,KpL l28 w44 w45∧
 NotIn k63 l28∧
 (Hb w45 k63 #[int i64 n10,int i64 n11,int i64 n12,int i64 n13,int i64 n14] 143→
 (LdA w45 (Addr.mk k63 0 none) [int i64 n10,int i64 n11,int i64 n12,int i64 n13,int i64 n14]∧
 LdA w45 ((Addr.mk s 0 none).add 3) [map m2]∧
 True)∧
 (Hb w45 k63 #[int i64 n10,int i64 n11,int i64 n12,int i64 n13,int i64 n14] 143→
 Ev Tryz.prog (Instr.lookup 114 (map m2) (agg #[int i64 n10,int i64 n11,int i64 n12,int i64 n13,int i64 n14]) false) w45 fun y9 w46 =>
 ∃n21 a42 k90 k91,y9=agg #[int i64 n21,slice a42 k90 k91]∧
 ∃l29,KpL l29 w45 w46∧
 NotIn k63 l29∧
 (Hb w46 k63 #[int i64 n10,int i64 n11,int i64 n12,int i64 n13,int i64 n14] 143→
 CallW Tryz.prog 111 #[slice a32 k70 k71,int u64 (u64.wrap n21)] w46 fun e21 w47 =>
 ∃a43 k92 k93,e21=returned (slice a43 k92 k93)∧
 ∃l30,KpL l30 w46 w47∧
 NotIn k63 l30∧
 (Hb w47 k63 #[int i64 n10,int i64 n11,int i64 n12,int i64 n13,int i64 n14] 143→
 CallW Tryz.prog 114 #[slice a43 k92 k93,slice a41 k88 k89] w47 fun e22 w48 =>
 ∃a44 k94 k95,e22=returned (slice a44 k94 k95)∧
 ∃l31,KpL l31 w47 w48∧
 NotIn k63 l31∧
 InI i64 (n9+1)∧
 (Hb w48 k63 #[int i64 n10,int i64 n11,int i64 n12,int i64 n13,int i64 n14] 143→
 P11 [slice a44 k94 k95,int i64 (n9+1)] w48∧
 P12 [slice a44 k94 k95,int i64 (n9+1)] w48<P12 [slice a28 k61 k62,int i64 n9] w30)))))))∧
 (¬n9<(↑k57:Int)→
 R (returned (slice a28 k61 k62)) w30))∨
 (∃n22 n23 n24 n25 n26 n27 a45 k96 k97,y4=tuple #[Value.bool true,agg #[int i64 n22,int i64 n23,int i64 n24,int i64 n25,int i64 n26],agg #[int i64 n27,slice a45 k96 k97]]∧
 ∃l32,KpL l32 w26 w27∧
 Ev Tryz.prog (Instr.entry (pointer (some d5))) w27 fun y10 w49 =>
 ∃n28 n29 n30 n31 n32 n33 a46 k98 k99,y10=tuple #[agg #[int i64 n28,int i64 n29,int i64 n30,int i64 n31,int i64 n32],agg #[int i64 n33,slice a46 k98 k99]]∧
 ∃l33,KpL l33 w27 w49∧
 ∀k100,w49.heap.size≤k100→
 ∀k101,w49.heap.size≤k101→
 ∀w50,KpL [] w49 w50→
 Hb w50 k101 #[int i64 n28,int i64 n29,int i64 n30,int i64 n31,int i64 n32] 143∧
 Hb w50 k100 #[int i64 n28,int i64 n29,int i64 n30,int i64 n31,int i64 n32] 143→
 Ev Tryz.prog (Builtin.append_ #[205,205] 205 #[slice a26 k57 k58,slice (some (Addr.mk k101 0 none)) 1 1]) w50 fun y11 w51 =>
 ∃a47 k102 k103,y11=slice a47 k102 k103∧
 ∃l34,KpL l34 w50 w51∧
 (NotIn k101 l34∧
 NotIn k100 l34)∧
 (Hb w51 k101 #[int i64 n28,int i64 n29,int i64 n30,int i64 n31,int i64 n32] 143∧
 Hb w51 k100 #[int i64 n28,int i64 n29,int i64 n30,int i64 n31,int i64 n32] 143→
 P9 [slice a47 k102 k103] w51∧
 P10 [slice a47 k102 k103] w51<P10 [slice a26 k57 k58] w26))))):Calls Tryz.prog 59 #[pointer (some (Addr.mk s 0 none))] w R :=
 fnc0 (an:={ loops:=[⟨36,[3,155],[16,156,157,158,159,160,161,162,163,164],[]⟩,⟨32,[3,135],[15,16,136,137,138,139,140,141,142,143,144,145,146,147,148,149,150,151,152,153,154,155,156,157,158,159,160,161,162,163,164,165,166,167,168,169,170,171,172,173,174,175,176,177,178,179,180,181,182,183],[]⟩,⟨26,[12],[13,118,119,120,121,122,123,124,125],[]⟩,⟨20,[3,101],[11,102,103,104,105,106,107,108,109,110,111,112],[]⟩,⟨13,[3,73],[9,74,75,76,77,78,79,80,81,82,83,84,85,86],[]⟩,⟨7,[3,47],[7,48,49,50,51,52,53,54,55,56,57,58,59,60,61],[]⟩,⟨3,[3,29],[5,7,9,30,31,32,33,34,35,36,37,38,39,40,41,42,43,44,45,46,47,48,49,50,51,52,53,54,55,56,57,58,59,60,61,62,63,64,65,66,67,68,69,70,71,72,73,74,75,76,77,78,79,80,81,82,83,84,85,86,87],[]⟩],muts:=[111,112,113,114,118],all:=true,ent:=[143,145] }) (args:=[.a (.c (.v (.pointer (some ⟨s,0,none⟩))))]) Tryz_ok Tryz.func59 (by kernel_rfl) rfl rfl h
end Go.Vc
namespace Go.Vc
open Go Go.Proofs
structure Sta where
 batch:Int
 vals:List Vl
deriving DecidableEq
def tSta:Ty Sta:=tM (fun s=>(s.batch,s.vals)) (tP (tI .i64) (tSl tVal))
theorem R.sta{M:List Nat}{w:World}{x:Sta}{cs:List Value}(h:R tSta M w x cs):∃a n c,cs=[.int .i64 x.batch,.slice a n c]∧InI .i64 x.batch∧R (tSl tVal) M w x.vals [.slice a n c]:=by
 obtain⟨c1,c2,rfl,⟨rfl,hi⟩,h2⟩:=h
 obtain⟨a,c,rfl⟩:=R.sl_form (M:=M) (w:=w) h2
 exact⟨_,_,_,rfl,hi,h2⟩
theorem R.mkSta{M:List Nat}{w:World}{x:Sta}{a:Option Addr}{n c:Nat}(hi:InI .i64 x.batch)(h:R (tSl tVal) M w x.vals [.slice a n c]):R tSta M w x [.int .i64 x.batch,.slice a n c]:=⟨_,_,rfl,⟨rfl,hi⟩,h⟩
structure Seen where
 token:ByteArray
 stamp:Int
deriving DecidableEq
def Seen.ok(d:Seen):Prop:=d.token.size≤maxSl∧InI .i64 d.stamp
def tSeen:Ty Seen:=tPure 2 (fun v=>[.string v.token,.int .i64 v.stamp]) Seen.ok (fun _ _=>rfl) (by
 intro x v hv
 simp only[List.mem_cons,List.not_mem_nil,or_false]at hv
 rcases hv with rfl|rfl<;>rfl)
theorem R.seen{M:List Nat}{w:World}{v:Seen}{cs:List Value}(h:R tSeen M w v cs):cs=[.string v.token,.int .i64 v.stamp]∧v.ok:=h
theorem apSeen:ApT Tryz.prog 110 110 112 2 24:=apB_sound (by kernel_rfl)
theorem u114:Tryz.prog.underlying 114=some (.map 143 145):=Tryz.underlying114
structure Sto where
 id:Int
 arrays:List Nm
 places:List (Pl×Sta)
 batches:List Seen
 use:Int
structure StoIn (M:List Nat) (w:World) (s l:Nat) (st:Sto) (m:Nat) (ra:Option Addr) (rn rc:Nat) (qa:Option Addr) (qn qc:Nat):Prop where
 hs:w.heap[s]?=some (.cells #[.pointer (some ⟨l,0,none⟩),.int .i64 st.id,.slice ra rn rc,.map (some m),.slice qa qn qc,.int .i64 st.use] 116 (0,0))
 arr:R (tSl tNm) (s::l::m::(blkL qa++M)) w st.arrays [.slice ra rn rc]
 pls:MapAt Pl.enc tSta (s::l::(blkL qa++M)) w m st.places
 bat:Acc tSeen (s::l::m::M) w st.batches qa qn qc
 sl:s≠l
 sM:s∉M
 lM:l∉M
 idI:InI .i64 st.id
 useI:InI .i64 st.use
 keys:∀p∈st.places,p.1.ok
def StoreAt(M:List Nat)(w:World)(s l d:Nat)(num nxt:Int)(st:Sto)(F:List Nat):Prop :=
 ∃m ra rn rc qa qn qc,StoIn M w s l st m ra rn rc qa qn qc∧LogAt w l d num nxt∧F=s::l::m::blkL qa
section
variable {M:List Nat} {w:World} {s l:Nat} {st:Sto} {m:Nat} {ra:Option Addr} {rn rc:Nat} {qa:Option Addr} {qn qc:Nat} (h:StoIn M w s l st m ra rn rc qa qn qc)
include h
theorem StoIn.mlt:∀b∈M,b<w.heap.size:=fun b hb=>h.bat.mlt b (by simp[hb])
theorem StoIn.own_lt{d:Nat}{num nxt:Int}(hl:LogAt w l d num nxt):∀b∈s::l::m::blkL qa,b<w.heap.size∧b∉M:=by
 intro b hb
 have hm:=h.pls.mM
 simp only[List.mem_cons]at hb
 rcases hb with rfl|rfl|rfl|hb
 ·exact⟨block_lt h.hs,h.sM⟩
 ·exact⟨block_lt hl,h.lM⟩
 ·exact⟨h.pls.lt,fun hc=>hm (by simp[hc])⟩
 ·have:=h.bat.blk_lt b hb
  exact⟨this.1,fun hc=>this.2 (by simp[hc])⟩
theorem StoIn.step{M' N:List Nat}{w':World}(kp:KpL N w w')(hs:∀b∈N,b∈M)(hn:∀b∈M',(b∈M∨w.heap.size≤b)∧b<w'.heap.size)(hl:l<w.heap.size):StoIn M' w' s l st m ra rn rc qa qn qc:=by
 have ls:=block_lt h.hs
 have lm:=h.pls.lt
 have hsz:=kp.size
 have hout:∀x,x<w.heap.size→x∉M→x∉M':=fun x hx hxM hm=>(hn x hm).1.elim hxM (fun hge=>by omega)
 refine⟨(kp.blk s ls fun hm=>h.sM (hs s hm)).trans h.hs,h.arr.step kp (fun b hb=>by simp[hs b hb]) ?_,h.pls.step kp (fun b hb=>by simp[hs b hb]) ?_,h.bat.step kp (fun b hb=>by simp[hs b hb]) ?_,h.sl,hout s ls h.sM,hout l hl h.lM,h.idI,h.useI,h.keys⟩
 ·intro b hb
  simp only[List.mem_cons,List.mem_append]at hb ⊢
  rcases hb with hb|hb|hb|hb|hb
  ·simp[hb]
  ·simp[hb]
  ·simp[hb]
  ·simp[hb]
  ·exact(hn b hb).1.imp (fun h=>by simp[h]) id
 ·intro b hb
  simp only[List.mem_cons,List.mem_append]at hb ⊢
  rcases hb with hb|hb|hb|hb
  ·simp[hb]
  ·simp[hb]
  ·simp[hb]
  ·exact(hn b hb).1.imp (fun h=>by simp[h]) id
 ·intro b hb
  simp only[List.mem_cons]at hb ⊢
  rcases hb with rfl|rfl|rfl|hb
  ·exact⟨.inl (by simp),by omega⟩
  ·exact⟨.inl (by simp),by omega⟩
  ·exact⟨.inl (by simp),by omega⟩
  ·exact⟨(hn b hb).1.imp (fun h=>by simp[h]) id,(hn b hb).2⟩
end
section
variable {M F:List Nat} {w:World} {s l d:Nat} {num nxt:Int} {st:Sto} (h:StoreAt M w s l d num nxt st F)
include h
theorem StoreAt.own_lt:∀b∈F,b<w.heap.size∧b∉M:=by
 obtain⟨m,ra,rn,rc,qa,qn,qc,h,hl,rfl⟩:=h
 exact h.own_lt hl
theorem StoreAt.mlt:∀b∈M,b<w.heap.size:=by
 obtain⟨m,ra,rn,rc,qa,qn,qc,h,hl,rfl⟩:=h
 exact h.mlt
theorem StoreAt.log:LogAt w l d num nxt:=by
 obtain⟨m,ra,rn,rc,qa,qn,qc,h,hl,rfl⟩:=h
 exact hl
theorem StoreAt.lF:l∈F:=by
 obtain⟨m,ra,rn,rc,qa,qn,qc,h,hl,rfl⟩:=h
 simp
theorem StoreAt.sF:s∈F:=by
 obtain⟨m,ra,rn,rc,qa,qn,qc,h,hl,rfl⟩:=h
 simp
theorem StoreAt.step{M' N:List Nat}{w':World}(kp:KpL N w w')(hs:∀b∈N,b∈M)(hn:∀b∈M',(b∈M∨w.heap.size≤b)∧b<w'.heap.size):StoreAt M' w' s l d num nxt st F:=by
 obtain⟨m,ra,rn,rc,qa,qn,qc,h,hl,rfl⟩:=h
 exact⟨m,ra,rn,rc,qa,qn,qc,h.step kp hs hn (block_lt hl),hl.keep kp fun hm=>h.lM (hs l hm),rfl⟩
theorem StoreAt.kp0{w':World}(kp:KpL [] w w'):StoreAt M w' s l d num nxt st F :=
 h.step kp (by simp) fun b hb=>⟨.inl hb,Nat.lt_of_lt_of_le (h.mlt b hb) kp.size⟩
theorem StoreAt.weak{M':List Nat}(hs:∀b∈M',b∈M):StoreAt M' w s l d num nxt st F :=
 h.step (KpL.refl [] w) (by simp) fun b hb=>⟨.inl (hs b hb),h.mlt b (hs b hb)⟩
end
def readyE(st:Sto)(k:Dk):Int:=if k.down=true∨st.id≠k.st then 17 else 0
theorem DkAt.cell{M F:List Nat}{w:World}{d:Nat}{k:Dk}(h:DkAt M w d k F):LdA w ((⟨d,0,none⟩:Addr).add 5) [.bool k.down]∧LdA w ((⟨d,0,none⟩:Addr).add 8) [.int .i64 k.st]:=by
 obtain⟨bd,bn,rd,rn,pe,pn,pc,pk,kn,kc,wr,sy,h,rfl⟩:=h
 rw[add_lit,add_lit]
 exact⟨ldA_blk h.hd 5 _ rfl,ldA_blk h.hd 8 _ rfl⟩
section
variable {M M' F Fd:List Nat} {w:World} {s l d:Nat} {num nxt:Int} {st:Sto} {k:Dk}
theorem ready_ok(h:StoreAt M w s l d num nxt st F)(hd:DkAt M' w d k Fd):Calls Tryz.prog 45 #[.pointer (some ⟨s,0,none⟩)] w (PureR (.int .i64 (readyE st k)) w):=by
 obtain⟨m,ra,rn,rc,qa,qn,qc,h,hl,rfl⟩:=h
 have e0:LdA w ((⟨s,0,none⟩:Addr).add 0) [.pointer (some ⟨l,0,none⟩)]:=by rw[add_lit];exact ldA_blk h.hs 0 _ rfl
 have e1:LdA w ((⟨s,0,none⟩:Addr).add 1) [.int .i64 st.id]:=by rw[add_lit];exact ldA_blk h.hs 1 _ rfl
 have e2:LdA w ((⟨l,0,none⟩:Addr).add 0) [.pointer (some ⟨d,0,none⟩)]:=by rw[add_lit];exact ldA_blk hl 0 _ rfl
 refine ready_vc ⟨_,e0,fun hc=>by simp at hc,fun _=>⟨_,e0,_,rfl,_,e2,_,rfl,_,hd.cell.1,fun hb=>⟨_,e1,_,e0,_,rfl,_,e2,_,rfl,_,hd.cell.2,fun hne w1 hk=>?_,fun he w1 hk=>?_⟩,fun hb w1 hk=>?_⟩⟩
 ·unfold readyE;rw[if_pos (.inr hne)];exact⟨rfl,hk⟩
 ·unfold readyE;rw[if_neg (by rw[hb];have:=Classical.not_not.1 he;simp[this])];exact⟨rfl,hk⟩
 ·unfold readyE;rw[if_pos (.inl hb)];exact⟨rfl,hk⟩
theorem readyN_ok(w:World):Calls Tryz.prog 45 #[.pointer none] w (PureR (.int .i64 1) w):=by
 refine readyN_vc (u:=0) ⟨true,⟨fun w=>?_⟩,fun hc=>by simp at hc,fun _=>⟨rfl,KpL.refl _ _⟩⟩
 have hg:Tryz.prog.eqGuardType Tryz.prog.depth 41=false:=by kernel_rfl
 have he:∀w,(Op.equal 41 (.pointer none) (.pointer none)).run Tryz.prog w=.ok true w:=by
  intro w
  unfold Op.equal Op.maxDepth
  rw[Op.equalIn]
  simp only[Sem.run_bind,run_underlying Tryz.underlying41,Result.andThen_ok]
  rfl
 simp[eqGuard,binOp,hg,he]
theorem compacted_ok(h:StoreAt M w s l d num nxt st F)(ha:st.arrays.length≤1000000)(hp:st.places.length≤1000000)(hb:st.batches.length≤1000000):
 Calls Tryz.prog 61 #[.pointer (some ⟨s,0,none⟩)] w (PureR (.int .i64 (1+8*st.arrays.length+3*st.places.length+st.batches.length)) w):=by
 obtain⟨m,ra,rn,rc,qa,qn,qc,h,hl,rfl⟩:=h
 obtain⟨rfl,_,_⟩:=h.arr.sl_len
 have hq:=h.bat.len
 subst hq
 refine compacted_vc h.hs ⟨ini_i64.2 (by omega),ini_i64.2 (by omega),fun w1 hk1=>?_⟩
 obtain⟨arr,clock,hm⟩:=h.pls.kp0 hk1
 have hs1:w1.heap[s]?=_:=(hk1.blk s (block_lt h.hs) (by simp)).trans h.hs
 refine⟨.int .i64 (st.places.length:Nat),w1,?_,_,rfl,[],KpL.refl _ _,⟨by simp⟩,⟨ldA_blk hs1 4 _ rfl,ldA_blk hs1 2 _ rfl,trivial⟩,ini_i64.2 (by omega),ini_i64.2 (by omega),ini_i64.2 (by omega),rfl,hk1⟩
 simp only[Builtin.len_,List.getElem?_toArray,List.getElem?_cons_zero,Sem.run_bind,run_underlying u114,Result.andThen_ok,getObj,Sem.run,hm.blk,Sem.run_pure,goInt,hm.len]
theorem weight_ok(w:World)(tok arn:ByteArray)(stp:Int)(ca:Option Addr)(cn cc:Nat)(hc:cn≤1000000):Calls Tryz.prog 49 #[.agg #[.string tok,.int .i64 stp,.string arn,.slice ca cn cc]] w (PureR (.int .i64 (2+3*cn)) w) :=
 weight_vc fun _ _=>⟨ini_i64.2 (by omega),ini_i64.2 (by omega),fun w1 hk=>⟨rfl,hk⟩⟩
def tokGt(a b:ByteArray):Bool:=!(Op.bytesLess a.toList b.toList || a.toList == b.toList)
def Seen.gt(x y:Seen):Bool:=decide (y.stamp<x.stamp) || (decide (x.stamp=y.stamp)&&tokGt x.token y.token)
def newerB(bs:List Seen)(a b:Int):Bool:=decide (b=0) || (match bs[(a - 1).toNat]?,bs[(b - 1).toNat]? with
 |some x,some y=>x.gt y
 |_,_=>false)
theorem newer_ok(h:StoreAt M w s l d num nxt st F)(hbl:st.batches.length≤1000000){a b:Int}(ha:1≤a∧a≤st.batches.length)(hb:0≤b∧b≤st.batches.length):
 Calls Tryz.prog 115 #[.pointer (some ⟨s,0,none⟩),.int .i64 a,.int .i64 b] w (PureR (.bool (newerB st.batches a b)) w):=by
 obtain⟨m,ra,rn,rc,qa,qn,qc,h,hl,rfl⟩:=h
 have hq:=h.bat.len
 subst hq
 have hcap:=h.bat.cap
 have hmx:maxSl=140737488355328:=rfl
 have hall:st.batches.length≤maxSl:=by omega
 refine newer_vc h.hs ⟨fun hz=>⟨by unfold newerB;rw[decide_eq_true hz];rfl,KpL.refl _ _⟩,fun hz=>?_⟩
 have hR:=h.bat.done hall
 have ga:(a - 1).toNat<st.batches.length:=by omega
 have gb:(b - 1).toNat<st.batches.length:=by omega
 obtain⟨ad,cs,rfl,hv1,hld1,_,_⟩:=hR.sl_get ga
 obtain⟨rfl,hok1⟩:=hv1.seen
 obtain⟨ad2,cs2,had2,hv2,hld2,_,_⟩:=hR.sl_get gb
 simp only[Option.some.injEq]at had2
 subst had2
 obtain⟨rfl,hok2⟩:=hv2.seen
 have e0:newerB st.batches a b=(st.batches[(a - 1).toNat]).gt (st.batches[(b - 1).toNat]):=by
  unfold newerB
  rw[decide_eq_false hz,List.getElem?_eq_getElem ga,List.getElem?_eq_getElem gb]
  rfl
 generalize st.batches[(a - 1).toNat]=x at *
 generalize st.batches[(b - 1).toNat]=y at *
 have fin:∀{w1 w2:World} {kk:Nat} {r:Bool},KpL [] w w1→w.heap.size≤kk→KpL [kk] w1 w2→r=x.gt y→PureR (.bool (newerB st.batches a b)) w (.returned (.bool r)) w2:=by
  rintro w1 w2 kk r h1 h2 h3 rfl
  rw[e0]
  exact⟨rfl,h1.more h3 (by intro z hz;simp at hz;subst hz;exact .inr h2)⟩
 have ld4:∀{w1:World},KpL [] w w1→LdA w1 ⟨s,0+4,none⟩ [.slice (some ad) st.batches.length qc]:=fun hk=>ldA_blk ((hk.blk s (block_lt h.hs) (by simp)).trans h.hs) 4 _ rfl
 refine⟨ini_i64.2 (by omega),ad,rfl,by omega,by omega,_,_,hld1,ini_i64.2 (by omega),ad,rfl,by omega,by omega,_,_,hld2,fun k1 hk1 k2 hk2 w1 hw1=>⟨⟨hld2.kp hw1,ld4 hw1,trivial⟩,fun hns=>⟨fun he w2 hw2=>fin hw1 hk2 hw2 ?_,fun hne w2 hw2=>fin hw1 hk2 hw2 ?_⟩,fun hlt w2 hw2=>fin hw1 hk2 hw2 ?_⟩,fun k1 hk1 k2 hk2 w1 hw1=>⟨⟨hld2.kp hw1,ld4 hw1,trivial⟩,fun hns=>⟨fun he w2 hw2=>fin hw1 hk1 hw2 ?_,fun hne w2 hw2=>fin hw1 hk1 hw2 ?_⟩,fun hlt w2 hw2=>fin hw1 hk1 hw2 ?_⟩⟩
 all_goals unfold Seen.gt
 ·rw[decide_eq_false hns,decide_eq_true he];rfl
 ·rw[decide_eq_false hns,decide_eq_false hne];rfl
 ·rw[decide_eq_true hlt];rfl
 ·rw[decide_eq_false hns,decide_eq_true he];rfl
 ·rw[decide_eq_false hns,decide_eq_false hne];rfl
 ·rw[decide_eq_true hlt];rfl
end
end Go.Vc
namespace Go.Vc
open Go Go.Proofs
theorem index151_ok{M:List Nat}{w:World}{xs:List Nm}{a:Option Addr}{n c:Nat}{f:FuncId}{fi ca:Array Value}{p:Nm→Bool}(hR:R (tSl tNm) M w xs [.slice a n c])(hp:PredV tNm M w f fi ca p):
 Calls Tryz.prog 151 #[.slice a n c,.func (.func f) fi ca] w (PureR (.int .i64 (idxOf p xs 0)) w):=by
 obtain⟨rfl,h1,h2⟩:=hR.sl_len
 have hmx:maxSl=140737488355328:=rfl
 refine index151_vc ⟨fun vs w'=>∃i,vs=[.int .i64 i]∧0≤i∧i≤xs.length∧KpL [] w w'∧idxOf p (xs.drop i.toNat) i=idxOf p xs 0,fun vs _=>match vs with|[.int _ i]=>xs.length - i.toNat|_=>0,
  ⟨0,rfl,by omega,by omega,KpL.refl _ _,rfl⟩,?_⟩
 rintro n1 w1 ⟨i,hv,hi0,hi1,hk,he⟩
 simp only[List.cons.injEq,Value.int.injEq,true_and,and_true]at hv
 subst hv
 constructor
 ·intro hlt
  have hi:n1.toNat<xs.length:=by omega
  obtain⟨ad,cs,rfl,hv1,hld,_,_⟩:=(hR.kp0 hk).sl_get hi
  have hv1':=hv1
  obtain⟨b1,p1,q1,b2,p2,q2,b3,p3,q3,rfl,hsz,hx1,hx2,hx3⟩:=hv1.nm
  rw[List.drop_eq_getElem_cons hi,idxOf]at he
  refine⟨ad,rfl,hi0,hlt,_,_,_,_,_,_,_,_,_,_,hld,hp.ok,⟨(hp.calls _ _ _ w1 hk hv1' rfl).mono ?_⟩⟩
  rintro e w2 ⟨rfl,hk2⟩
  refine⟨_,rfl,_,hk2,fun hb=>⟨?_,hk.trans hk2⟩,fun hb=>⟨ini_i64.2 (by omega),⟨n1+1,rfl,by omega,by omega,hk.trans hk2,?_⟩,?_⟩⟩
  ·rw[hb,if_pos rfl]at he;rw[he]
  ·rw[hb,if_neg (by simp)]at he
   rw[show(n1+1).toNat=n1.toNat+1 from by omega];exact he
  ·show xs.length - (n1+1).toNat<xs.length - n1.toNat
   omega
 ·intro hge
  rw[List.drop_eq_nil_of_le (by omega)]at he
  refine⟨?_,hk⟩
  rw[←he];rfl
theorem findF_pred{M:List Nat}{w:World}{k:Nat}{kn:ByteArray}(hk:w.heap[k]?=some (.cells #[.string kn] 9 (0,0))):PredV tNm M w 152 #[] #[.pointer (some ⟨k,0,none⟩)] (fun x=>decide (x.name=kn)):=by
 refine⟨⟨_,_,Tryz.func152,rfl⟩,?_⟩
 rintro x cs v w' hk' hR rfl
 obtain⟨b1,p1,q1,b2,p2,q2,b3,p3,q3,rfl,hsz,hx1,hx2,hx3⟩:=hR.nm
 exact findF_vc ((hk'.blk k (block_lt hk) (by simp)).trans hk) fun _ _ w1 hk1 _=>⟨rfl,hk1⟩
def findA_(arrays:List Nm)(nm:ByteArray):Int:=idxOf (fun x=>decide (x.name=nm)) arrays 0
theorem find_ok{M F:List Nat}{w:World}{s l d:Nat}{num nxt:Int}{st:Sto}(h:StoreAt M w s l d num nxt st F)(nm:ByteArray):
 Calls Tryz.prog 103 #[.pointer (some ⟨s,0,none⟩),.string nm] w (PureR (.int .i64 (findA_ st.arrays nm)) w):=by
 obtain⟨m,ra,rn,rc,qa,qn,qc,h,hl,rfl⟩:=h
 refine find_vc h.hs fun k1 hk1 w1 hw1 hkn=>⟨(index151_ok (h.arr.kp0 hw1) (findF_pred hkn.1)).mono ?_⟩
 rintro e w2 ⟨rfl,hk2⟩
 exact⟨_,rfl,hk2,fun _=>⟨rfl,hw1.trans hk2⟩⟩
theorem index107_ok{M:List Nat}{w:World}{xs:List Seen}{a:Option Addr}{n c:Nat}{f:FuncId}{fi ca:Array Value}{p:Seen→Bool}(hR:R (tSl tSeen) M w xs [.slice a n c])(hp:PredV tSeen M w f fi ca p):
 Calls Tryz.prog 107 #[.slice a n c,.func (.func f) fi ca] w (PureR (.int .i64 (idxOf p xs 0)) w):=by
 obtain⟨rfl,h1,h2⟩:=hR.sl_len
 have hmx:maxSl=140737488355328:=rfl
 refine index107_vc ⟨fun vs w'=>∃i,vs=[.int .i64 i]∧0≤i∧i≤xs.length∧KpL [] w w'∧idxOf p (xs.drop i.toNat) i=idxOf p xs 0,fun vs _=>match vs with|[.int _ i]=>xs.length - i.toNat|_=>0,
  ⟨0,rfl,by omega,by omega,KpL.refl _ _,rfl⟩,?_⟩
 rintro n1 w1 ⟨i,hv,hi0,hi1,hk,he⟩
 simp only[List.cons.injEq,Value.int.injEq,true_and,and_true]at hv
 subst hv
 constructor
 ·intro hlt
  have hi:n1.toNat<xs.length:=by omega
  obtain⟨ad,cs,rfl,hv1,hld,_,_⟩:=(hR.kp0 hk).sl_get hi
  have hv1':=hv1
  obtain⟨rfl,hok⟩:=hv1.seen
  rw[List.drop_eq_getElem_cons hi,idxOf]at he
  refine⟨ad,rfl,hi0,hlt,_,_,hld,hp.ok,⟨(hp.calls _ _ _ w1 hk hv1' rfl).mono ?_⟩⟩
  rintro e w2 ⟨rfl,hk2⟩
  refine⟨_,rfl,_,hk2,fun hb=>⟨?_,hk.trans hk2⟩,fun hb=>⟨ini_i64.2 (by omega),⟨n1+1,rfl,by omega,by omega,hk.trans hk2,?_⟩,?_⟩⟩
  ·rw[hb,if_pos rfl]at he;rw[he]
  ·rw[hb,if_neg (by simp)]at he
   rw[show(n1+1).toNat=n1.toNat+1 from by omega];exact he
  ·show xs.length - (n1+1).toNat<xs.length - n1.toNat
   omega
 ·intro hge
  rw[List.drop_eq_nil_of_le (by omega)]at he
  refine⟨?_,hk⟩
  rw[←he];rfl
theorem contains47_ok{M:List Nat}{w:World}{xs:List Seen}{a:Option Addr}{n c:Nat}{f:FuncId}{fi ca:Array Value}{p:Seen→Bool}(hR:R (tSl tSeen) M w xs [.slice a n c])(hp:PredV tSeen M w f fi ca p):
 Calls Tryz.prog 47 #[.slice a n c,.func (.func f) fi ca] w (PureR (.bool (xs.any p)) w):=by
 refine contains47_vc ⟨(index107_ok hR hp).mono ?_⟩
 rintro e w1 ⟨rfl,hk⟩
 exact⟨_,rfl,hk,by rw[idxOf_any p xs 0 (by omega)],hk⟩
theorem putF_pred{M:List Nat}{w:World}{k:Nat}{tok arn:ByteArray}{stp:Int}{ca:Option Addr}{cn cc:Nat}(hk:w.heap[k]?=some (.cells #[.string tok,.int .i64 stp,.string arn,.slice ca cn cc] 48 (0,0))):
 PredV tSeen M w 48 #[] #[.pointer (some ⟨k,0,none⟩)] (fun x=>decide (x.token=tok)):=by
 refine⟨⟨_,_,Tryz.func48,rfl⟩,?_⟩
 rintro x cs v w' hk' hR rfl
 obtain⟨rfl,hok⟩:=hR.seen
 exact putF_vc ((hk'.blk k (block_lt hk) (by simp)).trans hk) fun _ _ w1 hk1 _=>⟨rfl,hk1⟩
section
variable {M M' F Fd:List Nat} {w:World} {s l d:Nat} {num nxt:Int} {st:Sto} {k:Dk}
theorem StoreAt.ld{j:Nat}{v:Value}(h:StoreAt M w s l d num nxt st F)(hj:j=0∧v=.pointer (some ⟨l,0,none⟩)∨j=1∧v=.int .i64 st.id∨j=5∧v=.int .i64 st.use):LdA w ((⟨s,0,none⟩:Addr).add j) [v]:=by
 obtain⟨m,ra,rn,rc,qa,qn,qc,h,hl,rfl⟩:=h
 rw[add_lit,Nat.zero_add]
 rcases hj with ⟨rfl,rfl⟩|⟨rfl,rfl⟩|⟨rfl,rfl⟩
 ·exact ldA_blk h.hs 0 _ rfl
 ·exact ldA_blk h.hs 1 _ rfl
 ·exact ldA_blk h.hs 5 _ rfl
theorem LogAt.ld(hl:LogAt w l d num nxt):LdA w ((⟨l,0,none⟩:Addr).add 0) [.pointer (some ⟨d,0,none⟩)]∧LdA w ((⟨l,0,none⟩:Addr).add 1) [.int .u64 num]:=by
 rw[add_lit,add_lit]
 exact⟨ldA_blk hl 0 _ rfl,ldA_blk hl 1 _ rfl⟩
theorem room_ok(h:StoreAt M w s l d num nxt st F)(hd:DkAt M' w d k Fd)(h2:2≤k.n)(hu:0≤st.use∧st.use≤1000000):
 Calls Tryz.prog 29 #[.pointer (some ⟨s,0,none⟩)] w (PureR (.tuple #[.int .i64 (if readyE st k≠0 then 0 else k.half - st.use),.int .i64 (readyE st k)]) w):=by
 refine room_vc ⟨(ready_ok h hd).mono ?_⟩
 rintro e w1 ⟨rfl,hk1⟩
 refine⟨_,rfl,hk1,fun hne=>⟨by rw[if_pos hne],hk1⟩,fun hz=>?_⟩
 have hz':=Classical.not_not.1 hz
 have h1:=h.kp0 hk1
 have hd1:=hd.kp0 hk1
 obtain⟨q,q1,q2,q3⟩:=hd.ok.secs
 have hh:=k.half_le
 refine⟨_,h1.ld (.inl ⟨rfl,rfl⟩),_,rfl,_,h1.log.ld.1,_,h1.ld (.inr (.inr ⟨rfl,rfl⟩)),fun w2 hk2=>⟨(dHalf_ok (hd1.kp0 hk2) h2).mono ?_⟩⟩
 rintro e w3 ⟨rfl,hk3⟩
 refine⟨_,rfl,hk3,ini_i64.2 (by omega),?_,(hk1.trans hk2).trans hk3⟩
 rw[hz',if_neg (by simp)]
theorem apS:ApT Tryz.prog 87 87 9 1 16:=apB_sound (by kernel_rfl)
theorem tokens_ok{N:List Nat}(hN:∀b∈N,b<w.heap.size)(h:StoreAt M w s l d num nxt st F)(hd:DkAt M' w d k Fd)(hbl:st.batches.length≤1000000):
 Calls Tryz.prog 30 #[.pointer (some ⟨s,0,none⟩)] w fun e w'=>∃a n c,e=.returned (.tuple #[.slice a n c,.int .i64 (readyE st k)])∧KpL [] w w'∧R (tSl tS) N w' (if readyE st k≠0 then [] else st.batches.map (·.token)) [.slice a n c]:=by
 refine tokens_vc ⟨(ready_ok h hd).mono ?_⟩
 rintro e w1 ⟨rfl,hk1⟩
 refine⟨_,rfl,hk1,fun hne=>⟨_,_,_,rfl,hk1,by rw[if_pos hne];exact R.sl_nil _ _ _ _ _⟩,fun hz=>?_⟩
 rw[if_neg hz]
 have hz':=Classical.not_not.1 hz
 have h1:=h.kp0 hk1
 obtain⟨m,ra,rn,rc,qa,qn,qc,h1,hl,rfl⟩:=h1
 have hmx:maxSl=140737488355328:=rfl
 have hq:=h1.bat.len
 have hR:=h1.bat.done (by omega)
 refine⟨qa,qn,qc,by rw[add_lit];exact ldA_blk h1.hs 4 _ rfl,fun vs w'=>∃(i:Nat) (a:Option Addr) (n c:Nat),vs=[.slice a n c,.int .i64 (i:Int)]∧i≤st.batches.length∧AccC tS N w1 none ((st.batches.map (·.token)).take i) a n c w',
  fun vs _=>match vs with|[_,.int _ i]=>st.batches.length - i.toNat|_=>0,⟨0,none,0,0,rfl,by omega,⟨Acc.nil' _ (fun b hb=>Nat.lt_of_lt_of_le (hN b hb) hk1.size),KpL.refl _ _,by simp[blkL]⟩⟩,?_⟩
 rintro a2 k3 k4 n2 w2 ⟨i,_,_,_,hv,hi,hC⟩
 simp only[List.cons.injEq,Value.int.injEq,Value.slice.injEq,true_and,and_true]at hv
 obtain⟨⟨rfl,rfl,rfl⟩,rfl⟩:=hv
 have hlA:=hC.acc.len
 rw[List.length_take,List.length_map,Nat.min_eq_left hi]at hlA
 constructor
 ·intro hlt
  have gi:i<st.batches.length:=by omega
  obtain⟨ad,cs,rfl,hv1,hld1,_,_⟩:=(hR.kp0 hC.kpn).sl_get gi
  obtain⟨rfl,hok1⟩:=hv1.seen
  refine⟨ad,rfl,by omega,by omega,_,_,hld1,fun k5 hk5 k6 hk6 w3 hw3 hkn3=>?_⟩
  have hC3:=hC.kp0 hw3
  have hRs:R tS (blkL a2++N) w3 st.batches[i].token [.string st.batches[i].token]:=⟨rfl,by have:=hok1.1;omega⟩
  refine ev_append1 apS hC3.acc hkn3 hRs (by omega) fun a' c' w4 hC4=>⟨_,_,_,rfl,_,hC4.kp,⟨⟨fun hm=>by have:=(hC.acc.blk_lt _ hm).1;omega⟩,⟨fun hm=>by have:=(hC.acc.blk_lt _ hm).1;omega⟩⟩,ini_i64.2 (by omega),⟨i+1,a',_,c',rfl,by omega,?_⟩,?_⟩
  ·have e1:(st.batches.map (·.token)).take (i+1)=(st.batches.map (·.token)).take i++[st.batches[i].token]:=by
    rw[←List.take_append_getElem (by simpa using gi),List.getElem_map]
   rw[e1]
   exact hC3.trans hC4
  ·show st.batches.length - ((i:Int)+1).toNat<st.batches.length - (i:Int).toNat
   omega
 ·intro hge
  have hie:i=st.batches.length:=by omega
  subst hie
  rw[List.take_of_length_le (by simp)]at hC
  refine⟨_,_,_,?_,hk1.trans hC.kpn,hC.acc.done (by omega)⟩
  rw[hz']
theorem lost_ok(h:StoreAt M w s l d num nxt st F)(x:Int):Calls Tryz.prog 51 #[.pointer (some ⟨s,0,none⟩),.int .i64 x] w fun e w'=>e=.returned (.int .i64 x)∧StoreAt M w' s l d num nxt (if x≠0 then { st with id:=-1 } else st) F∧Own F w F w':=by
 have h0:=h
 obtain⟨m,ra,rn,rc,qa,qn,qc,h,hl,rfl⟩:=h
 refine lost_vc ⟨fun hne=>?_,fun hz=>⟨rfl,by rw[if_neg hz];exact h0,Own.refl _ _⟩⟩
 rw[add_lit,if_pos hne]
 refine⟨⟨_,ldA_blk h.hs 1 [_] rfl,rfl⟩,notFrozen h.hs,?_⟩
 rintro w1 rfl
 have hk:KpL [s] w (stA w ⟨s,0+1,none⟩ [.int .i64 (-1)] 0):=stA_kp w ⟨s,0+1,none⟩ _
 have hb:=stA_ld (off:=1) (l:=[.int .i64 (-1)]) h.hs (by simp)
 have hm:=h.pls.mM
 refine⟨rfl,⟨m,ra,rn,rc,qa,qn,qc,⟨hb,h.arr.kp hk (by simp),h.pls.step hk (by simp) (fun b hb=>.inl hb),h.bat.kp hk (by simp),h.sl,h.sM,h.lM,ini_i64.2 (by simp),h.useI,h.keys⟩,hl.keep hk (by simpa using h.sl.symm),rfl⟩,hk.mono (by simp),fun b hb=>.inl hb⟩
theorem opened_ok(h:StoreAt (Fd++M) w s l d num nxt st F)(hd:DkAt (F++M) w d k Fd)(hk:InI .i64 (k.st+1)):Calls Tryz.prog 67 #[.pointer (some ⟨s,0,none⟩)] w fun e w'=>e=.returned (.pointer (some ⟨s,0,none⟩))∧
 StoreAt (Fd++M) w' s l d num nxt { st with id:=k.st+1 } F∧DkAt (F++M) w' d { k with st:=k.st+1 } Fd∧Own (F++Fd) w (F++Fd) w':=by
 have h0:=h
 have hsF:=h.sF
 have hlF:=h.lF
 obtain⟨m,ra,rn,rc,qa,qn,qc,h,hl,rfl⟩:=h
 have hd0:=hd
 obtain⟨bd,bn,rd,rn',pe,pn,pc,pk,kn,kc,wr,sy,hd,rfl⟩:=hd
 have hsd:s≠d:=fun e=>hd.m1 (by rw[←e];simp)
 have hld:l≠d:=fun e=>hd.m1 (by rw[←e];simp)
 have e0:=h0.ld (.inl ⟨rfl,rfl⟩)
 refine opened_vc ⟨_,e0,_,rfl,_,hl.ld.1,_,rfl,_,hd0.cell.2,hk,_,rfl,?_⟩
 rw[add_lit]
 refine⟨⟨_,ldA_blk hd.hd 8 [_] rfl,rfl⟩,notFrozen hd.hd,?_⟩
 rintro w1 rfl
 have hk1:KpL [d] w (stA w ⟨d,0+8,none⟩ [.int .i64 (k.st+1)] 0):=stA_kp w ⟨d,0+8,none⟩ _
 have hb1:=stA_ld (off:=8) (l:=[.int .i64 (k.st+1)]) hd.hd (by simp)
 generalize stA w ⟨d,0+8,none⟩ [.int .i64 (k.st+1)] 0=w1 at *
 have hl1:LogAt w1 l d num nxt:=hl.keep hk1 (by simpa using hld)
 have hs1:w1.heap[s]?=_:=(hk1.blk s (block_lt h.hs) (by simpa using hsd)).trans h.hs
 have hD1:=hd.set (k':={ k with st:=k.st+1 }) hk1 (by simp) hb1 rfl rfl hd.pend hd.picks ⟨hd.ok.secs,hd.ok.len,hd.ok.dby,hd.ok.nby,hd.ok.fin,hk,hd.ok.pend⟩
 refine⟨_,by rw[add_lit];exact ldA_blk hs1 0 [_] rfl,_,rfl,_,hl1.ld.1,_,rfl,_,by rw[add_lit];exact ldA_blk hD1.hd 8 [_] rfl,?_⟩
 refine⟨⟨_,by rw[add_lit];exact ldA_blk hs1 1 [_] rfl,rfl⟩,by rw[add_lit];exact notFrozen hs1,?_⟩
 rintro w2 rfl
 rw[add_lit]
 have hk2:KpL [s] w1 (stA w1 ⟨s,0+1,none⟩ [.int .i64 (k.st+1)] 0):=stA_kp w1 ⟨s,0+1,none⟩ _
 have hb2:=stA_ld (off:=1) (l:=[.int .i64 (k.st+1)]) hs1 (by simp)
 have hkb:KpL [d,s] w (stA w1 ⟨s,0+1,none⟩ [.int .i64 (k.st+1)] 0):=(hk1.mono (by simp)).trans (hk2.mono (by simp))
 have hin:∀b∈[d,s],b∈s::l::m::(blkL qa++(d::bd::bn::blkL pe++M)):=by
  intro b hb
  simp at hb
  rcases hb with rfl|rfl<;>simp
 have hmd:m≠d:=fun e=>hd.m1 (by rw[←e];simp)
 refine⟨rfl,⟨m,ra,rn,rc,qa,qn,qc,⟨hb2,h.arr.kp hkb hin,h.pls.step hkb (fun b hb=>by
  simp at hb
  rcases hb with rfl|rfl<;>simp) (fun b hb=>.inl hb),h.bat.kp hkb ?_,h.sl,h.sM,h.lM,hk,h.useI,h.keys⟩,hl1.keep hk2 (by simpa using h.sl.symm),rfl⟩,⟨_,_,_,_,_,_,_,_,_,_,_,_,hD1.step hk2 (by simp) ?_,rfl⟩,hkb.mono ?_,fun b hb=>.inl hb⟩
 ·intro b hb
  simp at hb
  rcases hb with rfl|rfl<;>simp
 ·intro b hb
  exact⟨.inl hb,Nat.lt_of_lt_of_le (hd0.mlt b hb) hkb.size⟩
 ·intro b hb
  simp at hb
  rcases hb with rfl|rfl<;>simp
end
end Go.Vc
