/- A part of the proof of the theorem that this claim hands in: merged by a small program out of texts of my own. -/
import Derived.Test.YtlmpniofhabmiaaGreatKnoA
import Derived.Laws.BytesString
import Derived.Laws.RangeString
import Derived.Lib.ConvBytes
import Derived.Laws.IdiomRangeMap
set_option linter.unusedVariables false
set_option linter.unusedSimpArgs false
set_option linter.unusedSectionVars false
namespace Go.Vc
open Go Go.Proofs
open Go.Value Go.Ending Go.IntKind
set_option maxRecDepth 100000
theorem clone68_vc{a:Option Addr}{n c:Nat}{w:World}{R:Ending→World→Prop}
 (h :
 (a=none→
 R (returned (slice none 0 0)) w)∧
 (¬a=none→
 Ev Tryz.prog (Instr.buildSlice 78 0 #[]) w fun y1 w1 =>
 ∃a1 k1 k2,y1=slice a1 k1 k2∧
 ∃l1,KpL l1 w w1∧
 Ev Tryz.prog (Builtin.append_ #[78,78] 78 #[slice a1 k1 k2,slice a n c]) w1 fun y2 w2 =>
 ∃a2 k3 k4,y2=slice a2 k3 k4∧
 ∃l2,KpL l2 w1 w2∧
 R (returned (slice a2 k3 k4)) w2)):Calls Tryz.prog 68 #[slice a n c] w R :=
 fnc0 (an:={}) (args:=[.a (.c (.v (.slice a n c)))]) Tryz_ok Tryz.func68 (by kernel_rfl) rfl rfl h
theorem clone77_vc{a:Option Addr}{n c:Nat}{w:World}{R:Ending→World→Prop}
 (h :
 (a=none→
 R (returned (slice none 0 0)) w)∧
 (¬a=none→
 Ev Tryz.prog (Instr.buildSlice 79 0 #[]) w fun y1 w1 =>
 ∃a1 k1 k2,y1=slice a1 k1 k2∧
 ∃l1,KpL l1 w w1∧
 Ev Tryz.prog (Builtin.append_ #[79,79] 79 #[slice a1 k1 k2,slice a n c]) w1 fun y2 w2 =>
 ∃a2 k3 k4,y2=slice a2 k3 k4∧
 ∃l2,KpL l2 w1 w2∧
 R (returned (slice a2 k3 k4)) w2)):Calls Tryz.prog 77 #[slice a n c] w R :=
 fnc0 (an:={}) (args:=[.a (.c (.v (.slice a n c)))]) Tryz_ok Tryz.func77 (by kernel_rfl) rfl rfl h
theorem clone95_vc{a:Option Addr}{n c:Nat}{w:World}{R:Ending→World→Prop}
 (h :
 (a=none→
 R (returned (slice none 0 0)) w)∧
 (¬a=none→
 Ev Tryz.prog (Instr.buildSlice 33 0 #[]) w fun y1 w1 =>
 ∃a1 k1 k2,y1=slice a1 k1 k2∧
 ∃l1,KpL l1 w w1∧
 Ev Tryz.prog (Builtin.append_ #[33,33] 33 #[slice a1 k1 k2,slice a n c]) w1 fun y2 w2 =>
 ∃a2 k3 k4,y2=slice a2 k3 k4∧
 ∃l2,KpL l2 w1 w2∧
 R (returned (slice a2 k3 k4)) w2)):Calls Tryz.prog 95 #[slice a n c] w R :=
 fnc0 (an:={}) (args:=[.a (.c (.v (.slice a n c)))]) Tryz_ok Tryz.func95 (by kernel_rfl) rfl rfl h
theorem clone164_vc{a:Option Addr}{n c:Nat}{w:World}{R:Ending→World→Prop}
 (h :
 (a=none→
 R (returned (slice none 0 0)) w)∧
 (¬a=none→
 Ev Tryz.prog (Instr.buildSlice 54 0 #[]) w fun y1 w1 =>
 ∃a1 k1 k2,y1=slice a1 k1 k2∧
 ∃l1,KpL l1 w w1∧
 Ev Tryz.prog (Builtin.append_ #[54,54] 54 #[slice a1 k1 k2,slice a n c]) w1 fun y2 w2 =>
 ∃a2 k3 k4,y2=slice a2 k3 k4∧
 ∃l2,KpL l2 w1 w2∧
 R (returned (slice a2 k3 k4)) w2)):Calls Tryz.prog 164 #[slice a n c] w R :=
 fnc0 (an:={}) (args:=[.a (.c (.v (.slice a n c)))]) Tryz_ok Tryz.func164 (by kernel_rfl) rfl rfl h
theorem clone165_vc{a:Option Addr}{n c:Nat}{w:World}{R:Ending→World→Prop}
 (h :
 (a=none→
 R (returned (slice none 0 0)) w)∧
 (¬a=none→
 Ev Tryz.prog (Instr.buildSlice 55 0 #[]) w fun y1 w1 =>
 ∃a1 k1 k2,y1=slice a1 k1 k2∧
 ∃l1,KpL l1 w w1∧
 Ev Tryz.prog (Builtin.append_ #[55,55] 55 #[slice a1 k1 k2,slice a n c]) w1 fun y2 w2 =>
 ∃a2 k3 k4,y2=slice a2 k3 k4∧
 ∃l2,KpL l2 w1 w2∧
 R (returned (slice a2 k3 k4)) w2)):Calls Tryz.prog 165 #[slice a n c] w R :=
 fnc0 (an:={}) (args:=[.a (.c (.v (.slice a n c)))]) Tryz_ok Tryz.func165 (by kernel_rfl) rfl rfl h
theorem equal71_vc{a:Option Addr}{n c:Nat}{b:Option Addr}{m q:Nat}{w:World}{R:Ending→World→Prop}
 (h :
 ((↑n:Int)≠(↑m:Int)→
 R (returned (Value.bool false)) w)∧
 (¬(↑n:Int)≠(↑m:Int)→
 ∃(P1:List Value→World→Prop) (P2:List Value→World→Nat),P1 [int i64 0] w∧
 ∀n1 w1,P1 [int i64 n1] w1→
 (n1<(↑n:Int)→
 ∃d1,a=some d1∧
 0≤n1∧
 n1<(↑n:Int)∧
 ∃s1 n2 n3,LdA w1 (d1.add (n1.toNat*3)) [string s1,int i64 n2,int i64 n3]∧
 ∃d2,b=some d2∧
 0≤n1∧
 n1<(↑m:Int)∧
 ∃s2 n4 n5,LdA w1 (d2.add (n1.toNat*3)) [string s2,int i64 n4,int i64 n5]∧
 ∃b1,Pv Tryz.prog
 (do
 eqGuard BinOp.neq 153 (Operand.tmp 19) (Operand.tmp 23) (agg #[string s1,int i64 n2,int i64 n3]) (agg #[string s2,int i64 n4,int i64 n5])
 binOp BinOp.neq 153 (agg #[string s1,int i64 n2,int i64 n3]) (agg #[string s2,int i64 n4,int i64 n5]))
 (Value.bool b1)∧
 (b1=true→
 ∀w2,KpL [] w1 w2→
 R (returned (Value.bool false)) w2)∧
 (b1=false→
 InI i64 (n1+1)∧
 ∀w3,KpL [] w1 w3→
 P1 [int i64 (n1+1)] w3∧
 P2 [int i64 (n1+1)] w3<P2 [int i64 n1] w1))∧
 (¬n1<(↑n:Int)→
 R (returned (Value.bool true)) w1))):Calls Tryz.prog 71 #[slice a n c,slice b m q] w R :=
 fnc0 (an:={ loops:=[⟨4,[13],[4,5,14,15,16,17,18,19,20,21,22,23,24,25],[]⟩] }) (args:=[.a (.c (.v (.slice a n c))),.a (.c (.v (.slice b m q)))]) Tryz_ok Tryz.func71 (by kernel_rfl) rfl rfl h
theorem equal75_vc{a:Option Addr}{n c:Nat}{b:Option Addr}{m q:Nat}{w:World}{R:Ending→World→Prop}
 (h :
 ((↑n:Int)≠(↑m:Int)→
 R (returned (Value.bool false)) w)∧
 (¬(↑n:Int)≠(↑m:Int)→
 ∃(P1:List Value→World→Prop) (P2:List Value→World→Nat),P1 [int i64 0] w∧
 ∀n1 w1,P1 [int i64 n1] w1→
 (n1<(↑n:Int)→
 ∃d1,a=some d1∧
 0≤n1∧
 n1<(↑n:Int)∧
 ∃n2,LdA w1 (d1.add (n1.toNat*1)) [int i64 n2]∧
 ∃d2,b=some d2∧
 0≤n1∧
 n1<(↑m:Int)∧
 ∃n3,LdA w1 (d2.add (n1.toNat*1)) [int i64 n3]∧
 (n2≠n3→
 ∀w2,KpL [] w1 w2→
 R (returned (Value.bool false)) w2)∧
 (¬n2≠n3→
 InI i64 (n1+1)∧
 ∀w3,KpL [] w1 w3→
 P1 [int i64 (n1+1)] w3∧
 P2 [int i64 (n1+1)] w3<P2 [int i64 n1] w1))∧
 (¬n1<(↑n:Int)→
 R (returned (Value.bool true)) w1))):Calls Tryz.prog 75 #[slice a n c,slice b m q] w R :=
 fnc0 (an:={ loops:=[⟨4,[13],[4,5,14,15,16,17,18,19,20,21,22,23,24,25],[]⟩] }) (args:=[.a (.c (.v (.slice a n c))),.a (.c (.v (.slice b m q)))]) Tryz_ok Tryz.func75 (by kernel_rfl) rfl rfl h
theorem equal124_vc{a:Option Addr}{n c:Nat}{b:Option Addr}{m q:Nat}{w:World}{R:Ending→World→Prop}
 (h :
 ((↑n:Int)≠(↑m:Int)→
 R (returned (Value.bool false)) w)∧
 (¬(↑n:Int)≠(↑m:Int)→
 ∃(P1:List Value→World→Prop) (P2:List Value→World→Nat),P1 [int i64 0] w∧
 ∀n1 w1,P1 [int i64 n1] w1→
 (n1<(↑n:Int)→
 ∃d1,a=some d1∧
 0≤n1∧
 n1<(↑n:Int)∧
 ∃n2,LdA w1 (d1.add (n1.toNat*1)) [int u8 n2]∧
 ∃d2,b=some d2∧
 0≤n1∧
 n1<(↑m:Int)∧
 ∃n3,LdA w1 (d2.add (n1.toNat*1)) [int u8 n3]∧
 (n2≠n3→
 ∀w2,KpL [] w1 w2→
 R (returned (Value.bool false)) w2)∧
 (¬n2≠n3→
 InI i64 (n1+1)∧
 ∀w3,KpL [] w1 w3→
 P1 [int i64 (n1+1)] w3∧
 P2 [int i64 (n1+1)] w3<P2 [int i64 n1] w1))∧
 (¬n1<(↑n:Int)→
 R (returned (Value.bool true)) w1))):Calls Tryz.prog 124 #[slice a n c,slice b m q] w R :=
 fnc0 (an:={ loops:=[⟨4,[13],[4,5,14,15,16,17,18,19,20,21,22,23,24,25],[]⟩] }) (args:=[.a (.c (.v (.slice a n c))),.a (.c (.v (.slice b m q)))]) Tryz_ok Tryz.func124 (by kernel_rfl) rfl rfl h
theorem compare122_vc{a:Option Addr}{n c:Nat}{b:Option Addr}{m q:Nat}{w:World}{R:Ending→World→Prop}
 (h :
 ∃(P1:List Value→World→Prop) (P2:List Value→World→Nat),P1 [int i64 0] w∧
 ∀n1 w1,P1 [int i64 n1] w1→
 (n1<(↑n:Int)→
 ∃d1,a=some d1∧
 0≤n1∧
 n1<(↑n:Int)∧
 ∃n2,LdA w1 (d1.add (n1.toNat*1)) [int i64 n2]∧
 ((↑m:Int)≤n1→
 R (returned (int i64 1)) w1)∧
 (¬(↑m:Int)≤n1→
 ∃d2,b=some d2∧
 0≤n1∧
 n1<(↑m:Int)∧
 ∃n3,LdA w1 (d2.add (n1.toNat*1)) [int i64 n3]∧
 CallW Tryz.prog 121 #[int i64 n2,int i64 n3] w1 fun e1 w2 =>
 ∃n4,e1=returned (int i64 n4)∧
 KpL [] w1 w2∧
 (n4≠0→
 R (returned (int i64 n4)) w2)∧
 (¬n4≠0→
 InI i64 (n1+1)∧
 P1 [int i64 (n1+1)] w2∧
 P2 [int i64 (n1+1)] w2<P2 [int i64 n1] w1)))∧
 (¬n1<(↑n:Int)→
 ((↑n:Int)<(↑m:Int)→
 R (returned (int i64 (-1))) w1)∧
 (¬(↑n:Int)<(↑m:Int)→
 R (returned (int i64 0)) w1))):Calls Tryz.prog 122 #[slice a n c,slice b m q] w R :=
 fnc0 (an:={ loops:=[⟨2,[11],[4,5,6,7,8,12,13,14,15,16,17,18,19,20,21,22,23,24,25,26,27,28,29,30],[]⟩] }) (args:=[.a (.c (.v (.slice a n c))),.a (.c (.v (.slice b m q)))]) Tryz_ok Tryz.func122 (by kernel_rfl) rfl rfl h
theorem sameStrings_vc{a:Option Addr}{n c:Nat}{b:Option Addr}{m q:Nat}{w:World}{R:Ending→World→Prop}
 (h :
 ((↑n:Int)≠(↑m:Int)→
 R (returned (Value.bool false)) w)∧
 (¬(↑n:Int)≠(↑m:Int)→
 ∃(P1:List Value→World→Prop) (P2:List Value→World→Nat),P1 [int i64 0] w∧
 ∀n1 w1,P1 [int i64 n1] w1→
 (n1<(↑n:Int)→
 ∃d1,a=some d1∧
 0≤n1∧
 n1<(↑n:Int)∧
 ∃s1,LdA w1 (d1.add (n1.toNat*1)) [string s1]∧
 ∃d2,b=some d2∧
 0≤n1∧
 n1<(↑m:Int)∧
 ∃s2,LdA w1 (d2.add (n1.toNat*1)) [string s2]∧
 (s1≠s2→
 ∀w2,KpL [] w1 w2→
 R (returned (Value.bool false)) w2)∧
 (¬s1≠s2→
 InI i64 (n1+1)∧
 ∀w3,KpL [] w1 w3→
 P1 [int i64 (n1+1)] w3∧
 P2 [int i64 (n1+1)] w3<P2 [int i64 n1] w1))∧
 (¬n1<(↑n:Int)→
 R (returned (Value.bool true)) w1))):Calls Tryz.prog 31 #[slice a n c,slice b m q] w R :=
 fnc0 (an:={ loops:=[⟨4,[5],[4,11,12,13,14,15,16,17,18,19,20,21,22,23,24,25],[]⟩] }) (args:=[.a (.c (.v (.slice a n c))),.a (.c (.v (.slice b m q)))]) Tryz_ok Tryz.func31 (by kernel_rfl) rfl rfl h
end Go.Vc
namespace Go.Vc
open Go Go.Proofs
variable {α:Type}
theorem baq(a b:ByteArray):(a == b)=true↔a=b:=by
 obtain⟨a⟩:=a
 obtain⟨b⟩:=b
 show(a == b)=true↔_
 rw[beq_iff_eq,ByteArray.mk.injEq]
theorem u153:Tryz.prog.underlying 153=some (.struct #[⟨"Name",9,0,false, "", "",0⟩,⟨"Lo",3,1,false, "", "",16⟩,⟨"Hi",3,2,false, "", "",24⟩]):=by kernel_rfl
theorem u161:Tryz.prog.underlying 161=some (.struct #[⟨"Kind",3,0,false, "", "",0⟩,⟨"N",2,1,false, "", "",8⟩,⟨"D",2,2,false, "", "",16⟩,⟨"S",9,3,false, "", "",24⟩]):=by kernel_rfl
theorem u143:Tryz.prog.underlying 143=some (.struct #[⟨"array",3,0,false, "", "tesseract/ingest",0⟩,⟨"at",141,1,false, "", "tesseract/ingest",8⟩]):=by kernel_rfl
theorem u9:Tryz.prog.underlying 9=some .string:=by kernel_rfl
theorem u3:Tryz.prog.underlying 3=some (.int .i64):=by kernel_rfl
theorem u2:Tryz.prog.underlying 2=some (.int .i64):=by kernel_rfl
theorem part_run{P:Program}{t:TypeId}{d:TypeDesc}(hu:P.underlying t=some d)(hd:(match d with|.struct _|.array _ _=>true|_=>false)=false)(cs:Array Value)(o:Nat)(w:World):
 (part t cs o).run P w=match cs[o]? with|some v=>.ok v w|none=>.halt (.stuck "part: no such cell") w:=by
 have h1:(isAgg t).run P w=.ok false w:=by
  simp only[isAgg,Sem.run_bind,run_underlying hu,Result.andThen_ok]
  split at hd<;>simp_all
 simp only[part,Sem.run_bind,h1,Result.andThen_ok,Bool.false_eq_true,if_false]
 split<;>simp_all
theorem equal_str{P:Program}{t:TypeId}(hu:P.underlying t=some .string)(d:Nat)(a b:ByteArray)(w:World):(Op.equalIn (d+1) t (.string a) (.string b)).run P w=.ok (a == b) w:=by
 simp only[Op.equalIn,Sem.run_bind,run_underlying hu,Result.andThen_ok]
 rfl
theorem equal_int{P:Program}{t:TypeId}{k:IntKind}(hu:P.underlying t=some (.int k))(d:Nat)(a b:Int)(w:World):(Op.equalIn (d+1) t (.int k a) (.int k b)).run P w=.ok (a == b) w:=by
 simp only[Op.equalIn,Sem.run_bind,run_underlying hu,Result.andThen_ok,if_true]
 rfl
theorem p9(cs:Array Value)(o:Nat)(w:World):(part 9 cs o).run Tryz.prog w=match cs[o]? with|some v=>.ok v w|none=>.halt (.stuck "part: no such cell") w:=part_run u9 rfl cs o w
theorem p3(cs:Array Value)(o:Nat)(w:World):(part 3 cs o).run Tryz.prog w=match cs[o]? with|some v=>.ok v w|none=>.halt (.stuck "part: no such cell") w:=part_run u3 rfl cs o w
theorem p2(cs:Array Value)(o:Nat)(w:World):(part 2 cs o).run Tryz.prog w=match cs[o]? with|some v=>.ok v w|none=>.halt (.stuck "part: no such cell") w:=part_run u2 rfl cs o w
theorem eq153(w:World)(s1 s2:ByteArray)(a b c d:Int):(Op.equal 153 (.agg #[.string s1,.int .i64 a,.int .i64 b]) (.agg #[.string s2,.int .i64 c,.int .i64 d])).run Tryz.prog w=.ok (s1 == s2&&(a == c&&b == d)) w:=by
 have hs:Tryz.prog.stoodInHeld 153=false:=by kernel_rfl
 unfold Op.equal Op.maxDepth
 rw[Op.equalIn]
 simp only[Sem.run_bind,run_underlying u153,Result.andThen_ok,run_program,hs,Bool.false_eq_true,if_false]
 simp[p9,p3,equal_str u9,equal_int u3]
 cases s1 == s2<;>by_cases h1:a=c<;>by_cases h2:b=d<;>simp[h1,h2]
theorem eq161(w:World)(k n d k' n' d':Int)(s s':ByteArray):
 (Op.equal 161 (.agg #[.int .i64 k,.int .i64 n,.int .i64 d,.string s]) (.agg #[.int .i64 k',.int .i64 n',.int .i64 d',.string s'])).run Tryz.prog w=.ok (k == k'&&(n == n'&&(d == d'&&s == s'))) w:=by
 have hs:Tryz.prog.stoodInHeld 161=false:=by kernel_rfl
 unfold Op.equal Op.maxDepth
 rw[Op.equalIn]
 simp only[Sem.run_bind,run_underlying u161,Result.andThen_ok,run_program,hs,Bool.false_eq_true,if_false]
 simp[p9,p3,p2,equal_str u9,equal_int u3,equal_int u2]
 by_cases h1:k=k'<;>by_cases h2:n=n'<;>by_cases h3:d=d'<;>cases s == s'<;>simp[h1,h2,h3]
theorem pv_neq{t:TypeId}{xo yo:Operand}{x y:Array Value}{b:Bool}(hg:Tryz.prog.eqGuardType Tryz.prog.depth t=false)(h:∀w,(Op.equal t (.agg x) (.agg y)).run Tryz.prog w=.ok b w):
 Pv Tryz.prog (do eqGuard .neq t xo yo (.agg x) (.agg y);binOp .neq t (.agg x) (.agg y)) (.bool (!b)):=by
 refine⟨fun w=>?_⟩
 simp[eqGuard,binOp,hg,h]
theorem ev_make0{P:Program}{e:Ty α}{st te sz by_:Nat}(hT:ElT P st te sz by_){M:List Nat}{w:World}(hM:∀b∈M,b<w.heap.size){Q:Value→World→Prop}
 (h:∀w',AccC e M w none [] (some ⟨w.heap.size,0,none⟩) 0 0 w'→Q (.slice (some ⟨w.heap.size,0,none⟩) 0 0) w'):Ev P (Instr.buildSlice st 0 #[]) w Q:=by
 refine⟨_,w.alloc (.cells #[] te (0,0)),?_,h _ ⟨⟨rfl,Nat.le_refl _,fun b hb=>Nat.lt_of_lt_of_le (hM b hb) ((KpL.refl [] w).alloc _).size,fun hc=>(by cases hc),fun ad had=>?_⟩,(KpL.refl _ _).alloc _,fun b hb=>?_⟩⟩
 ·simp[Instr.buildSlice,run_underlying hT.und,hT.size,newRow,Instr.fill]
  have e0:Array.map (fun x=>(default:Value)) (Array.range 0)=#[]:=by simp
  rw[e0]
 ·simp only[Option.some.injEq]at had
  subst had
  refine⟨w.heap.size,#[],te,rfl,fun hm=>by have:=hM _ hm;omega,?_,by simp,fun i x hx=>by simp at hx⟩
  show(w.heap.push _)[w.heap.size]?=_
  simp
 ·simp[blkL]at hb
  subst hb
  exact .inr (Nat.le_refl _)
def Plain(e:Ty α):Prop:=∀A A' w w' x cs,e.rel A w x cs→e.rel A' w' x cs
theorem plain_pure{sz:Nat}{enc:α→List Value}{ok:α→Prop}{hl:∀x,ok x→(enc x).length=sz}{h1:∀x,∀v∈enc x,oneC v=true}:Plain (tPure sz enc ok hl h1):=fun _ _ _ _ _ _ h=>h
theorem plain_int{k:IntKind}:Plain (tI k):=fun _ _ _ _ _ _ h=>h
theorem R.srcsP{P:Program}{e:Ty α}(hp:Plain e){M M':List Nat}{w w1:World}{ys:List α}{a2:Option Addr}{m c2:Nat}(hy:R (tSl e) M w ys [.slice a2 m c2])(k:KpL [] w w1):∃ly,Srcs P e M' w1 ys (.slice a2 m c2) m ly:=by
 obtain⟨ly,h⟩:=(hy.kp0 k).srcs (P:=P)
 exact⟨ly,h.len,h.num,⟨h.flat.1,h.flat.2.1,fun i x hx=>by
  obtain⟨cs,h1,h2⟩:=h.flat.2.2 i x hx
  exact⟨cs,hp _ _ _ _ _ _ h1,h2⟩⟩,h.first⟩
theorem clone_gen{P:Program}{e:Ty α}{st te by_:Nat}(hT:ApT P st st te e.sz by_){M:List Nat}{w:World}{xs:List α}{a:Option Addr}{n c:Nat}(hM:∀b∈M,b<w.heap.size)
 (hnil:a=none→xs=[])(hR:∀w1 b,KpL [] w w1→w.heap.size≤b→∃ly,Srcs P e (b::M) w1 xs (.slice a n c) n ly)(hn:(2*n+768)*by_≤281474976710656){R':Ending→World→Prop}(hR':∀a' n' c' w',AccC e M w none xs a' n' c' w'→R' (.returned (.slice a' n' c')) w'):
 (((a=none)→R' (.returned (.slice none 0 0)) w)∧((¬a=none)→
   Ev P (Instr.buildSlice st 0 #[]) w fun y1 w1=>∃a1 k1 k2,y1=.slice a1 k1 k2∧∃l1,KpL l1 w w1∧Ev P (Builtin.append_ #[st,st] st #[.slice a1 k1 k2,.slice a n c]) w1 fun y2 w2 =>
    ∃a2 k3 k4,y2=.slice a2 k3 k4∧∃l2,KpL l2 w1 w2∧R' (.returned (.slice a2 k3 k4)) w2)):=by
 constructor
 ·intro ha
  have:=hnil ha
  subst this
  exact hR' none 0 0 w ⟨Acc.nil' e hM,KpL.refl _ _,by simp[blkL]⟩
 ·intro _
  refine ev_make0 (e:=e) hT.el hM fun w1 hC=>⟨_,_,_,rfl,_,hC.kp,?_⟩
  obtain⟨ly,hS⟩:=hR w1 w.heap.size hC.kpn (Nat.le_refl _)
  refine ev_appendS (ys:=xs) (ly:=ly) hT hC.acc hS (by rw[Nat.zero_add];exact hn) fun a' c' w' hC2=>⟨_,_,_,rfl,_,hC2.kp,?_⟩
  have:=hC.trans hC2
  rw[List.nil_append]at this
  exact hR' _ _ _ _ this
theorem R.nil_of{e:Ty α}{M:List Nat}{w:World}{xs:List α}{n c:Nat}(h:R (tSl e) M w xs [.slice none n c]):xs=[]:=by
 obtain⟨a',c',h1,_,_,h4⟩:=h
 simp only[List.cons.injEq,Value.slice.injEq,and_true]at h1
 by_cases hx:xs=[]
 ·exact hx
 ·obtain⟨b,off,_,_,_,h5,_⟩:=h4 hx
  rw[←h1.1]at h5
  cases h5
theorem clone_plain{P:Program}{e:Ty α}(hp:Plain e){st te by_:Nat}(hT:ApT P st st te e.sz by_){M M0:List Nat}{w:World}{xs:List α}{a:Option Addr}{n c:Nat}(hM:∀b∈M,b<w.heap.size)
 (hR:R (tSl e) M0 w xs [.slice a n c])(hn:(2*n+768)*by_≤281474976710656){R':Ending→World→Prop}(hR':∀a' n' c' w',AccC e M w none xs a' n' c' w'→R' (.returned (.slice a' n' c')) w'):
 (((a=none)→R' (.returned (.slice none 0 0)) w)∧((¬a=none)→
   Ev P (Instr.buildSlice st 0 #[]) w fun y1 w1=>∃a1 k1 k2,y1=.slice a1 k1 k2∧∃l1,KpL l1 w w1∧Ev P (Builtin.append_ #[st,st] st #[.slice a1 k1 k2,.slice a n c]) w1 fun y2 w2 =>
    ∃a2 k3 k4,y2=.slice a2 k3 k4∧∃l2,KpL l2 w1 w2∧R' (.returned (.slice a2 k3 k4)) w2)) :=
 clone_gen hT hM (fun ha=>by subst ha;exact hR.nil_of) (fun _ _ k _=>hR.srcsP hp k) hn hR'
abbrev NewR{α:Type}(e:Ty α)(M:List Nat)(w:World)(xs:List α):Ending→World→Prop:=AccR e M w none xs
structure Dim where
 name:ByteArray
 lo:Int
 hi:Int
deriving DecidableEq
structure Attr where
 name:ByteArray
 type:Int
deriving DecidableEq
def Dim.ok(d:Dim):Prop:=d.name.size≤maxSl∧InI .i64 d.lo∧InI .i64 d.hi
def Attr.ok(d:Attr):Prop:=d.name.size≤maxSl∧InI .i64 d.type
def tDim:Ty Dim:=tPure 3 (fun v=>[.string v.name,.int .i64 v.lo,.int .i64 v.hi]) Dim.ok (fun _ _=>rfl) (by
 intro x v hv
 simp only[List.mem_cons,List.not_mem_nil,or_false]at hv
 rcases hv with rfl|rfl|rfl<;>rfl)
def tAttr:Ty Attr:=tPure 2 (fun v=>[.string v.name,.int .i64 v.type]) Attr.ok (fun _ _=>rfl) (by
 intro x v hv
 simp only[List.mem_cons,List.not_mem_nil,or_false]at hv
 rcases hv with rfl|rfl<;>rfl)
theorem R.dim{M:List Nat}{w:World}{v:Dim}{cs:List Value}(h:R tDim M w v cs):cs=[.string v.name,.int .i64 v.lo,.int .i64 v.hi]∧v.ok:=h
theorem R.attr{M:List Nat}{w:World}{v:Attr}{cs:List Value}(h:R tAttr M w v cs):cs=[.string v.name,.int .i64 v.type]∧v.ok:=h
theorem R.intD{k:IntKind}{M:List Nat}{w:World}{v:Int}{cs:List Value}(h:R (tI k) M w v cs):cs=[.int k v]∧InI k v:=h
theorem apI:ApT Tryz.prog 78 78 3 1 8:=apB_sound (by kernel_rfl)
theorem apV:ApT Tryz.prog 79 79 161 4 40:=apB_sound (by kernel_rfl)
theorem apD:ApT Tryz.prog 54 54 153 3 32:=apB_sound (by kernel_rfl)
theorem apA:ApT Tryz.prog 55 55 156 2 24:=apB_sound (by kernel_rfl)
section
variable {M M0:List Nat} {w:World} {a:Option Addr} {n c:Nat} (hM:∀b∈M,b<w.heap.size) (hn:n≤1099511627776)
include hM hn
theorem clone68_ok{xs:List Int}(hR:R (tSl (tI .i64)) M0 w xs [.slice a n c]):Calls Tryz.prog 68 #[.slice a n c] w (NewR (tI .i64) M w xs) :=
 clone68_vc (clone_plain plain_int apI hM hR (by omega) fun _ _ _ _ h=>⟨_,_,_,rfl,h⟩)
theorem clone77_ok{xs:List Vl}(hR:R (tSl tVal) M0 w xs [.slice a n c]):Calls Tryz.prog 77 #[.slice a n c] w (NewR tVal M w xs) :=
 clone77_vc (clone_plain plain_pure apV hM hR (by omega) fun _ _ _ _ h=>⟨_,_,_,rfl,h⟩)
theorem clone95_ok{xs:List Int}(hR:R (tSl (tI .u8)) M0 w xs [.slice a n c]):Calls Tryz.prog 95 #[.slice a n c] w (NewR (tI .u8) M w xs) :=
 clone95_vc (clone_plain plain_int byT hM hR (by omega) fun _ _ _ _ h=>⟨_,_,_,rfl,h⟩)
theorem clone164_ok{xs:List Dim}(hR:R (tSl tDim) M0 w xs [.slice a n c]):Calls Tryz.prog 164 #[.slice a n c] w (NewR tDim M w xs) :=
 clone164_vc (clone_plain plain_pure apD hM hR (by omega) fun _ _ _ _ h=>⟨_,_,_,rfl,h⟩)
theorem clone165_ok{xs:List Attr}(hR:R (tSl tAttr) M0 w xs [.slice a n c]):Calls Tryz.prog 165 #[.slice a n c] w (NewR tAttr M w xs) :=
 clone165_vc (clone_plain plain_pure apA hM hR (by omega) fun _ _ _ _ h=>⟨_,_,_,rfl,h⟩)
end
def PureR(v:Value)(w:World)(e:Ending)(w':World):Prop:=e=.returned v∧KpL [] w w'
theorem take_eq{xs ys:List α}{i:Nat}(h1:i<xs.length)(h2:i<ys.length)(h:xs.take i=ys.take i)(he:xs[i]=ys[i]):xs.take (i+1)=ys.take (i+1):=by
 rw[←List.take_append_getElem h1,←List.take_append_getElem h2,h,he]
theorem get_ne{xs ys:List α}{i:Nat}(h1:i<xs.length)(h2:i<ys.length)(he:xs[i]≠ys[i]):xs≠ys:=by
 rintro rfl
 exact he rfl
theorem equal71_ok{M:List Nat}{w:World}{xs ys:List (Dim)}{a b:Option Addr}{n c m q:Nat}(hx:R (tSl tDim) M w xs [.slice a n c])(hy:R (tSl tDim) M w ys [.slice b m q]):
 Calls Tryz.prog 71 #[.slice a n c,.slice b m q] w (PureR (.bool (decide (xs=ys))) w):=by
 obtain⟨rfl,hn1,hn2⟩:=hx.sl_len
 obtain⟨rfl,hm1,hm2⟩:=hy.sl_len
 have hmx:maxSl=140737488355328:=rfl
 refine equal71_vc ⟨fun hne=>?_,fun he=>⟨fun vs w'=>∃i,vs=[.int .i64 i]∧KpL [] w w'∧0≤i∧i≤xs.length∧xs.take i.toNat=ys.take i.toNat,fun vs _=>match vs with|[.int _ i]=>xs.length - i.toNat|_=>0,⟨0,rfl,KpL.refl _ _,by omega,by omega,rfl⟩,?_⟩⟩
 ·refine⟨?_,KpL.refl _ _⟩
  have:xs≠ys:=by rintro rfl;exact hne rfl
  rw[decide_eq_false this]
 have hl:xs.length=ys.length:=by
  have:=Classical.not_not.1 he
  omega
 rintro n1 w1 ⟨i,hv,hk,hi0,hi1,ht⟩
 simp only[List.cons.injEq,Value.int.injEq,true_and,and_true]at hv
 subst hv
 constructor
 ·intro hlt
  have h1:n1.toNat<xs.length:=by omega
  have h2:n1.toNat<ys.length:=by omega
  obtain⟨ad,cs,rfl,hv1,hld1,_,_⟩:=(hx.kp0 hk).sl_get h1
  obtain⟨ad2,cs2,rfl,hv2,hld2,_,_⟩:=(hy.kp0 hk).sl_get h2
  obtain⟨rfl,hok1⟩:=hv1.dim
  obtain⟨rfl,hok2⟩:=hv2.dim
  refine⟨ad,rfl,hi0,hlt,_,_,_,hld1,ad2,rfl,hi0,by omega,_,_,_,hld2,?_⟩
  have hkey:(xs[n1.toNat].name == ys[n1.toNat].name&&(xs[n1.toNat].lo == ys[n1.toNat].lo&&xs[n1.toNat].hi == ys[n1.toNat].hi))=decide (xs[n1.toNat]=ys[n1.toNat]):=by
   generalize xs[n1.toNat]=x;generalize ys[n1.toNat]=y
   cases x;cases y;rw[Bool.eq_iff_iff];simp only[Bool.and_eq_true,baq,beq_iff_eq,decide_eq_true_eq,Dim.mk.injEq]
  refine⟨_,pv_neq (by kernel_rfl) (fun w=>eq153 w _ _ _ _ _ _),?_,?_⟩
  ·intro hb w2 hw2
   refine⟨?_,hk.trans hw2⟩
   have hne:xs[n1.toNat]≠ys[n1.toNat]:=by
    intro hc
    first
     |exact hb hc
     |(rw[decide_eq_true hc]at hkey;simp[hkey]at hb)
   rw[decide_eq_false (get_ne h1 h2 hne)]
  ·intro hb
   have heq:xs[n1.toNat]=ys[n1.toNat]:=by
    have:decide (xs[n1.toNat]=ys[n1.toNat])=true:=by rw[←hkey];simpa using hb
    exact of_decide_eq_true this
   have e1:(n1+1).toNat=n1.toNat+1:=by omega
   refine⟨ini_i64.2 (by omega),fun w3 hw3=>⟨⟨n1+1,rfl,hk.trans hw3,by omega,by omega,by rw[e1];exact take_eq h1 h2 ht heq⟩,?_⟩⟩
   show xs.length - (n1+1).toNat<xs.length - n1.toNat
   omega
 ·intro hge
  refine⟨?_,hk⟩
  have e1:n1.toNat=xs.length:=by omega
  rw[e1,List.take_length,hl,List.take_length]at ht
  rw[decide_eq_true ht]
theorem equal75_ok{M:List Nat}{w:World}{xs ys:List (Int)}{a b:Option Addr}{n c m q:Nat}(hx:R (tSl (tI .i64)) M w xs [.slice a n c])(hy:R (tSl (tI .i64)) M w ys [.slice b m q]):
 Calls Tryz.prog 75 #[.slice a n c,.slice b m q] w (PureR (.bool (decide (xs=ys))) w):=by
 obtain⟨rfl,hn1,hn2⟩:=hx.sl_len
 obtain⟨rfl,hm1,hm2⟩:=hy.sl_len
 have hmx:maxSl=140737488355328:=rfl
 refine equal75_vc ⟨fun hne=>?_,fun he=>⟨fun vs w'=>∃i,vs=[.int .i64 i]∧KpL [] w w'∧0≤i∧i≤xs.length∧xs.take i.toNat=ys.take i.toNat,fun vs _=>match vs with|[.int _ i]=>xs.length - i.toNat|_=>0,⟨0,rfl,KpL.refl _ _,by omega,by omega,rfl⟩,?_⟩⟩
 ·refine⟨?_,KpL.refl _ _⟩
  have:xs≠ys:=by rintro rfl;exact hne rfl
  rw[decide_eq_false this]
 have hl:xs.length=ys.length:=by
  have:=Classical.not_not.1 he
  omega
 rintro n1 w1 ⟨i,hv,hk,hi0,hi1,ht⟩
 simp only[List.cons.injEq,Value.int.injEq,true_and,and_true]at hv
 subst hv
 constructor
 ·intro hlt
  have h1:n1.toNat<xs.length:=by omega
  have h2:n1.toNat<ys.length:=by omega
  obtain⟨ad,cs,rfl,hv1,hld1,_,_⟩:=(hx.kp0 hk).sl_get h1
  obtain⟨ad2,cs2,rfl,hv2,hld2,_,_⟩:=(hy.kp0 hk).sl_get h2
  obtain⟨rfl,hok1⟩:=hv1.intD
  obtain⟨rfl,hok2⟩:=hv2.intD
  refine⟨ad,rfl,hi0,hlt,_,hld1,ad2,rfl,hi0,by omega,_,hld2,?_⟩
  have hkey:(decide (xs[n1.toNat]=ys[n1.toNat]))=decide (xs[n1.toNat]=ys[n1.toNat]):=by
   rfl
  refine⟨?_,?_⟩
  ·intro hb w2 hw2
   refine⟨?_,hk.trans hw2⟩
   have hne:xs[n1.toNat]≠ys[n1.toNat]:=by
    intro hc
    first
     |exact hb hc
     |(rw[decide_eq_true hc]at hkey;simp[hkey]at hb)
   rw[decide_eq_false (get_ne h1 h2 hne)]
  ·intro hb
   have heq:xs[n1.toNat]=ys[n1.toNat]:=by
    have:decide (xs[n1.toNat]=ys[n1.toNat])=true:=by rw[←hkey];simpa using hb
    exact of_decide_eq_true this
   have e1:(n1+1).toNat=n1.toNat+1:=by omega
   refine⟨ini_i64.2 (by omega),fun w3 hw3=>⟨⟨n1+1,rfl,hk.trans hw3,by omega,by omega,by rw[e1];exact take_eq h1 h2 ht heq⟩,?_⟩⟩
   show xs.length - (n1+1).toNat<xs.length - n1.toNat
   omega
 ·intro hge
  refine⟨?_,hk⟩
  have e1:n1.toNat=xs.length:=by omega
  rw[e1,List.take_length,hl,List.take_length]at ht
  rw[decide_eq_true ht]
theorem equal124_ok{M:List Nat}{w:World}{xs ys:List (Int)}{a b:Option Addr}{n c m q:Nat}(hx:R (tSl (tI .u8)) M w xs [.slice a n c])(hy:R (tSl (tI .u8)) M w ys [.slice b m q]):
 Calls Tryz.prog 124 #[.slice a n c,.slice b m q] w (PureR (.bool (decide (xs=ys))) w):=by
 obtain⟨rfl,hn1,hn2⟩:=hx.sl_len
 obtain⟨rfl,hm1,hm2⟩:=hy.sl_len
 have hmx:maxSl=140737488355328:=rfl
 refine equal124_vc ⟨fun hne=>?_,fun he=>⟨fun vs w'=>∃i,vs=[.int .i64 i]∧KpL [] w w'∧0≤i∧i≤xs.length∧xs.take i.toNat=ys.take i.toNat,fun vs _=>match vs with|[.int _ i]=>xs.length - i.toNat|_=>0,⟨0,rfl,KpL.refl _ _,by omega,by omega,rfl⟩,?_⟩⟩
 ·refine⟨?_,KpL.refl _ _⟩
  have:xs≠ys:=by rintro rfl;exact hne rfl
  rw[decide_eq_false this]
 have hl:xs.length=ys.length:=by
  have:=Classical.not_not.1 he
  omega
 rintro n1 w1 ⟨i,hv,hk,hi0,hi1,ht⟩
 simp only[List.cons.injEq,Value.int.injEq,true_and,and_true]at hv
 subst hv
 constructor
 ·intro hlt
  have h1:n1.toNat<xs.length:=by omega
  have h2:n1.toNat<ys.length:=by omega
  obtain⟨ad,cs,rfl,hv1,hld1,_,_⟩:=(hx.kp0 hk).sl_get h1
  obtain⟨ad2,cs2,rfl,hv2,hld2,_,_⟩:=(hy.kp0 hk).sl_get h2
  obtain⟨rfl,hok1⟩:=hv1.intD
  obtain⟨rfl,hok2⟩:=hv2.intD
  refine⟨ad,rfl,hi0,hlt,_,hld1,ad2,rfl,hi0,by omega,_,hld2,?_⟩
  have hkey:(decide (xs[n1.toNat]=ys[n1.toNat]))=decide (xs[n1.toNat]=ys[n1.toNat]):=by
   rfl
  refine⟨?_,?_⟩
  ·intro hb w2 hw2
   refine⟨?_,hk.trans hw2⟩
   have hne:xs[n1.toNat]≠ys[n1.toNat]:=by
    intro hc
    first
     |exact hb hc
     |(rw[decide_eq_true hc]at hkey;simp[hkey]at hb)
   rw[decide_eq_false (get_ne h1 h2 hne)]
  ·intro hb
   have heq:xs[n1.toNat]=ys[n1.toNat]:=by
    have:decide (xs[n1.toNat]=ys[n1.toNat])=true:=by rw[←hkey];simpa using hb
    exact of_decide_eq_true this
   have e1:(n1+1).toNat=n1.toNat+1:=by omega
   refine⟨ini_i64.2 (by omega),fun w3 hw3=>⟨⟨n1+1,rfl,hk.trans hw3,by omega,by omega,by rw[e1];exact take_eq h1 h2 ht heq⟩,?_⟩⟩
   show xs.length - (n1+1).toNat<xs.length - n1.toNat
   omega
 ·intro hge
  refine⟨?_,hk⟩
  have e1:n1.toNat=xs.length:=by omega
  rw[e1,List.take_length,hl,List.take_length]at ht
  rw[decide_eq_true ht]
end Go.Vc
namespace Go.Vc
open Go Go.Lib
variable {P:Program}
theorem strI_length(s:ByteArray):(strI s).length=s.size:=by unfold strI;rw[List.length_map,Array.length_toList];rfl
theorem strI_get(s:ByteArray)(i:Nat)(hi:i<s.size):(strI s)[i]'(by rw[strI_length];exact hi)=((s.data.toList.getD i 0).toNat:Int):=by
 unfold strI
 have:i<s.data.toList.length:=by rw[Array.length_toList];exact hi
 rw[List.getElem_map,List.getD_eq_getElem?_getD,List.getElem?_eq_getElem this,Option.getD_some]
theorem strI_by(s:ByteArray):∀x∈strI s,InI .u8 x:=by
 intro x hx
 unfold strI at hx
 simp only[List.mem_map]at hx
 obtain⟨b,_,rfl⟩:=hx
 have:=b.toNat_lt
 exact ini_u8.2 (by omega)
theorem ev_bytes{src dst e:TypeId}{u:TypeDesc}(hs:P.underlying src=some u)(hd:P.underlying dst=some (.slice e))(he:P.underlying e=some (.int .u8)){w:World}{s:ByteArray}(hsz:s.size≤maxSl){Q:Value→World→Prop}
 (h:∀a c w',KpL [] w w'→(∀M:List Nat,(∀b∈M,b<w.heap.size)→R (tSl (tI .u8)) M w' (strI s) [.slice a s.size c])→Q (.slice a s.size c) w'):Ev P (convert src dst (.string s)) w Q:=by
 have hcap:s.size≤grownCap w s.size 0 e:=by unfold grownCap;simp only[Question.cut];omega
 refine⟨_,_,run_convert_string_bytes w src dst e s hs hd he,h _ _ _ ⟨rfl,rfl,rfl,by first|exact Nat.le_refl _|exact Nat.le_succ _,by rw[bytesWorld_size];omega,fun b hb _=>bytesWorld_at_old w e s b hb⟩ fun M hM=>?_⟩
 refine⟨_,_,by rw[strI_length],by rw[strI_length];exact hcap,by rw[strI_length];exact hsz,fun _=>⟨w.heap.size,0,_,e,_,rfl,⟨by rw[bytesWorld_size];omega,fun hm=>by have:=hM _ hm;omega⟩,bytesWorld_at_new w e s,fun i x hx=>?_⟩⟩
 obtain⟨hi,rfl⟩:=List.getElem?_eq_some_iff.1 hx
 have hi':i<s.size:=by rw[strI_length]at hi;exact hi
 refine⟨[.int .u8 ((strI s)[i])],⟨rfl,strI_by s _ (List.getElem_mem hi)⟩,fun j v hv=>?_⟩
 cases j with
 |succ j=>simp at hv
 |zero =>
  simp at hv
  subst hv
  have hc:=bytesWorld_cell w e s i hi'
  rw[cell_of_block (bytesWorld_at_new w e s)]at hc
  rw[strI_get s i hi']
  show(bytesCells w e s).toList[0+i*1+0]?=_
  rw[show 0+i*1+0=i from by omega]
  simpa using hc
def mkStr(l:List Int):ByteArray:=⟨(l.map fun n=>UInt8.ofNat n.toNat).toArray⟩
theorem mkStr_fold(l:List Int):∀acc:ByteArray,l.foldl (fun r n=>r.push (UInt8.ofNat n.toNat)) acc=⟨acc.data++(l.map fun n=>UInt8.ofNat n.toNat).toArray⟩:=by
 induction l with
 |nil=>intro acc;cases acc;simp
 |cons x r ih =>
  intro acc
  rw[List.foldl_cons,ih]
  cases acc
  simp[ByteArray.push]
theorem mkStr_strI(s:ByteArray):mkStr (strI s)=s:=by
 unfold mkStr strI
 rw[List.map_map]
 have:((fun n:Int=>UInt8.ofNat n.toNat)∘fun b:UInt8=>(b.toNat:Int))=id:=by
  funext b
  simp
 rw[this,List.map_id]
theorem ev_string{src dst e:TypeId}(hs:P.underlying src=some (.slice e))(hd:P.underlying dst=some .string)(he:P.underlying e=some (.int .u8)){M:List Nat}{w:World}{l:List Int}{a:Option Addr}{n c:Nat}
 (hR:R (tSl (tI .u8)) M w l [.slice a n c]){Q:Value→World→Prop}(h:Q (.string (mkStr l)) w):Ev P (convert src dst (.slice a n c)) w Q:=by
 obtain⟨hn,_,_⟩:=hR.sl_len
 refine⟨_,w,?_,h⟩
 have e1:(convert src dst (.slice a n c)).run P w=(Conv.bytesToString (.slice a n c)).run P w:=by
  cases a<;>simp[convert,run_underlying hs,run_underlying hd,run_underlying he]
 rw[e1]
 cases a with
 |none =>
  have:l=[]:=by
   obtain⟨a',c',h1,_,_,h4⟩:=hR
   simp only[List.cons.injEq,Value.slice.injEq,and_true]at h1
   by_cases hx:l=[]
   ·exact hx
   ·obtain⟨b,off,_,_,_,h5,_⟩:=h4 hx
    rw[←h1.1]at h5
    cases h5
  subst this
  rfl
 |some ad =>
  obtain⟨ly,hf,h1,h2⟩:=hR.flat
  have hly:=flat_int hf
  subst hly
  have hl:(loadCells ad n).run P w=.ok (l.map (Value.int .u8)).toArray w:=by
   by_cases hne:l=[]
   ·subst hne
    simp at hn
    subst hn
    simp[loadCells,loadCellsFrom]
   ·have:=run_firstCells (P:=P) (sz:=1) (n:=n) (a:=some ad) (m:=n) (c:=c) (w:=w) (l:=l.map (Value.int .u8)) (by rw[List.length_map,hn,Nat.mul_one]) (fun ad' had _=>h1 ad' had hne) (fun hc=>by cases hc)
    simpa[Builtin.firstCells]using this
  rw[run_bytesToString w ad n c l hl,mkStr_fold]
  unfold mkStr
  simp
theorem pv_min{k:IntKind}{x y:Int}{at_:Array TypeId}{ty:TypeId}:Pv P (Builtin.min_ at_ ty #[.int k x,.int k y]) (.int k (min x y)):=by
 refine⟨fun w=>?_⟩
 have e:(if y<x then y else x)=min x y:=by omega
 simp[Builtin.min_,Builtin.min2,e]
theorem pv_max{k:IntKind}{x y:Int}{at_:Array TypeId}{ty:TypeId}:Pv P (Builtin.max_ at_ ty #[.int k x,.int k y]) (.int k (max x y)):=by
 refine⟨fun w=>?_⟩
 have e:(if x<y then y else x)=max x y:=by omega
 simp[Builtin.max_,Builtin.max2,e]
theorem decode_high(s:ByteArray)(pos:Nat)(h:pos<s.size)(ha:128≤(s[pos]'h).toNat):128≤(Utf8.decode s pos).1∧(Utf8.decode s pos).1≤2097151∧1≤(Utf8.decode s pos).2:=by
 have e:s.get! (pos+0)=s[pos]'h:=by
  show s.get! pos=_
  simp[ByteArray.get!,getElem!_pos,h]
  rfl
 have hr:Utf8.runeError=65533:=rfl
 unfold Utf8.decode
 simp only[e]
 rw[if_neg (by omega)]
 split
 ·split
  ·refine⟨by omega,?_,by omega⟩
   show _%32*64+_%64≤_
   omega
  ·simp[hr]
 ·split
  ·split
   ·rename_i h1
    simp only[ge_iff_le,Bool.and_eq_true,decide_eq_true_eq]at h1
    refine⟨by omega,?_,by omega⟩
    show _%16*4096+_%64*64+_%64≤_
    omega
   ·simp[hr]
  ·split
   ·split
    ·rename_i h1
     simp only[ge_iff_le,Bool.and_eq_true,decide_eq_true_eq]at h1
     refine⟨by omega,?_,by omega⟩
     show _%8*262144+_%64*4096+_%64*64+_%64≤_
     omega
    ·simp[hr]
   ·simp[hr]
end Go.Vc
namespace Go.Vc
open Go Go.Proofs
open Go.Value Go.Ending Go.IntKind
set_option maxRecDepth 100000
theorem name_vc{s:ByteArray}{w:World}{R:Ending→World→Prop}
 (h :
 (¬(↑s.size:Int)<(1:Int)→
 ((12:Int)<(↑s.size:Int)→
 R (returned (Value.bool false)) w)∧
 (¬(12:Int)<(↑s.size:Int)→
 Ev Tryz.prog (convert 9 33 (string s)) w fun y1 w1 =>
 ∃a1 k1 k2,y1=slice a1 k1 k2∧
 ∃l1,KpL l1 w w1∧
 ∃(P1:List Value→World→Prop) (P2:List Value→World→Nat),P1 [int i64 0] w1∧
 ∀n1 w2,P1 [int i64 n1] w2→
 (n1<(↑k1:Int)→
 ∃d1,a1=some d1∧
 0≤n1∧
 n1<(↑k1:Int)∧
 ∃n2,LdA w2 (d1.add (n1.toNat*1)) [int u8 n2]∧
 (97≤n2→
 (¬n2≤122→
 (¬n1=0→
 (n2≠95→
 (¬n2<48→
 (57<n2→
 R (returned (Value.bool false)) w2)∧
 (¬57<n2→
 InI i64 (n1+1)∧
 P1 [int i64 (n1+1)] w2∧
 P2 [int i64 (n1+1)] w2<P2 [int i64 n1] w2))∧
 (n2<48→
 R (returned (Value.bool false)) w2))∧
 (¬n2≠95→
 InI i64 (n1+1)∧
 P1 [int i64 (n1+1)] w2∧
 P2 [int i64 (n1+1)] w2<P2 [int i64 n1] w2))∧
 (n1=0→
 R (returned (Value.bool false)) w2))∧
 (¬¬n2≤122→
 InI i64 (n1+1)∧
 P1 [int i64 (n1+1)] w2∧
 P2 [int i64 (n1+1)] w2<P2 [int i64 n1] w2))∧
 (¬97≤n2→
 (¬n1=0→
 (n2≠95→
 (¬n2<48→
 (57<n2→
 R (returned (Value.bool false)) w2)∧
 (¬57<n2→
 InI i64 (n1+1)∧
 P1 [int i64 (n1+1)] w2∧
 P2 [int i64 (n1+1)] w2<P2 [int i64 n1] w2))∧
 (n2<48→
 R (returned (Value.bool false)) w2))∧
 (¬n2≠95→
 InI i64 (n1+1)∧
 P1 [int i64 (n1+1)] w2∧
 P2 [int i64 (n1+1)] w2<P2 [int i64 n1] w2))∧
 (n1=0→
 R (returned (Value.bool false)) w2)))∧
 (¬n1<(↑k1:Int)→
 R (returned (Value.bool true)) w2)))∧
 ((↑s.size:Int)<(1:Int)→
 R (returned (Value.bool false)) w)):Calls Tryz.prog 98 #[string s] w R :=
 fnc0 (an:={ loops:=[⟨4,[17],[2,3,4,5,18,19,20,21,22,23,24,25,26,27,28,29,30,31,32,33,34,35,36,37,38,39,40,41,42,43,44,45,46],[]⟩] }) (args:=[.a (.c (.v (.string s)))]) Tryz_ok Tryz.func98 (by kernel_rfl) rfl rfl h
theorem last_vc{ds:ByteArray}{dl dh:Int}{w:World}{R:Ending→World→Prop}
 (h :
 ∀k1,w.heap.size≤k1→
 ∃n1,Pv Tryz.prog (Builtin.min_ #[3,3] 3 #[int i64 dh,int i64 1073741824]) (int i64 n1)∧
 ∀w1,KpL [] w w1→
 R (returned (int i64 n1)) w1):Calls Tryz.prog 197 #[agg #[string ds,int i64 dl,int i64 dh]] w R :=
 fnc0 (an:={}) (args:=[.a (.agg [.v (.string ds),.v (.int .i64 dl),.v (.int .i64 dh)])]) Tryz_ok Tryz.func197 (by kernel_rfl) rfl rfl h
theorem gcd_vc{x:Int}{y:Int}{w:World}{R:Ending→World→Prop}
 (h :
 ∃(P1:List Value→World→Prop) (P2:List Value→World→Nat),P1 [int i64 x,int i64 y] w∧
 ∀n1 n2 w1,P1 [int i64 n1,int i64 n2] w1→
 (n2≠0→
 n2≠0∧
 ∀w2,KpL [] w1 w2→
 P1 [int i64 n2,int i64 (n1.tmod n2)] w2∧
 P2 [int i64 n2,int i64 (n1.tmod n2)] w2<P2 [int i64 n1,int i64 n2] w1)∧
 (¬n2≠0→
 R (returned (int i64 n1)) w1)):Calls Tryz.prog 184 #[int i64 x,int i64 y] w R :=
 fnc0 (an:={ loops:=[⟨1,[0,1],[5,6,7,8,9,10],[]⟩] }) (args:=[.a (.c (.v (.int .i64 x))),.a (.c (.v (.int .i64 y)))]) Tryz_ok Tryz.func184 (by kernel_rfl) rfl rfl h
theorem plain_vc{vk vn vd:Int}{vs:ByteArray}{w:World}{R:Ending→World→Prop}
 (h :
 ∀k1,w.heap.size≤k1→
 (vd=0→
 ∀w1,KpL [] w w1→
 R (returned (Value.bool (decide (vs=ByteArray.mk #[])))) w1)∧
 (¬vd=0→
 ∀w2,KpL [] w w2→
 R (returned (Value.bool false)) w2)):Calls Tryz.prog 183 #[agg #[int i64 vk,int i64 vn,int i64 vd,string vs]] w R :=
 fnc0 (an:={}) (args:=[.a (.agg [.v (.int .i64 vk),.v (.int .i64 vn),.v (.int .i64 vd),.v (.string vs)])]) Tryz_ok Tryz.func183 (by kernel_rfl) rfl rfl h
theorem odd_vc{x:Int}{w:World}{R:Ending→World→Prop}
 (h :
 (¬x<32→
 R (returned (Value.bool (decide (126<x)))) w)∧
 (x<32→
 R (returned (Value.bool true)) w)):Calls Tryz.prog 185 #[int i32 x] w R :=
 fnc0 (an:={}) (args:=[.a (.c (.v (.int .i32 x)))]) Tryz_ok Tryz.func185 (by kernel_rfl) rfl rfl h
theorem right_vc{vk vn vd:Int}{vs:ByteArray}{w:World}{R:Ending→World→Prop}
 (h :
 ∀k1,w.heap.size≤k1→
 (vk=0→
 ∀w1,KpL [] w w1→
 CallW Tryz.prog 183 (#[agg #[int i64 vk,int i64 vn,int i64 vd,string vs]]) w1 fun e1 w2 =>
 ∃b1,e1=returned (Value.bool b1)∧
 KpL [] w1 w2∧
 (b1=true→
 (1≤vn→
 R (returned (Value.bool (decide (vn≤255)))) w2)∧
 (¬1≤vn→
 R (returned (Value.bool false)) w2))∧
 (b1=false→
 R (returned (Value.bool false)) w2))∧
 (¬vk=0→
 (vk=1→
 ∀w3,KpL [] w w3→
 CallW Tryz.prog 183 (#[agg #[int i64 vk,int i64 vn,int i64 vd,string vs]]) w3 fun e2 w4 =>
 ∃b2,e2=returned (Value.bool b2)∧
 KpL [] w3 w4∧
 (b2=true→
 (¬vn=0→
 R (returned (Value.bool (decide (vn=1)))) w4)∧
 (vn=0→
 R (returned (Value.bool true)) w4))∧
 (b2=false→
 R (returned (Value.bool false)) w4))∧
 (¬vk=1→
 (vk=2→
 (vs=ByteArray.mk #[]→
 (1≤vd→
 (vd≤1099511627776→
 (-1099511627776≤vn→
 (vn≤1099511627776→
 InI i64 (0 - vn)∧
 ∃n1,Pv Tryz.prog (Builtin.max_ #[2,2] 2 #[int i64 vn,int i64 (0 - vn)]) (int i64 n1)∧
 ∀w5,KpL [] w w5→
 CallW Tryz.prog 184 #[int i64 n1,int i64 vd] w5 fun e3 w6 =>
 ∃n2,e3=returned (int i64 n2)∧
 KpL [] w5 w6∧
 R (returned (Value.bool (decide (n2=1)))) w6)∧
 (¬vn≤1099511627776→
 ∀w7,KpL [] w w7→
 R (returned (Value.bool false)) w7))∧
 (¬-1099511627776≤vn→
 ∀w8,KpL [] w w8→
 R (returned (Value.bool false)) w8))∧
 (¬vd≤1099511627776→
 ∀w9,KpL [] w w9→
 R (returned (Value.bool false)) w9))∧
 (¬1≤vd→
 ∀w10,KpL [] w w10→
 R (returned (Value.bool false)) w10))∧
 (¬vs=ByteArray.mk #[]→
 ∀w11,KpL [] w w11→
 R (returned (Value.bool false)) w11))∧
 (¬vk=2→
 (vk=3→
 (vn=0→
 (vd=0→
 ((↑vs.size:Int)≤(16:Int)→
 ∀w12,KpL [] w w12→
 CallW Tryz.prog 186 (#[string vs,func (Fn.func 185) #[] #[]]) w12 fun e4 w13 =>
 ∃n3,e4=returned (int i64 n3)∧
 KpL [] w12 w13∧
 R (returned (Value.bool (decide (n3<0)))) w13)∧
 (¬(↑vs.size:Int)≤(16:Int)→
 ∀w14,KpL [] w w14→
 R (returned (Value.bool false)) w14))∧
 (¬vd=0→
 ∀w15,KpL [] w w15→
 R (returned (Value.bool false)) w15))∧
 (¬vn=0→
 ∀w16,KpL [] w w16→
 R (returned (Value.bool false)) w16))∧
 (¬vk=3→
 ∀w17,KpL [] w w17→
 R (returned (Value.bool false)) w17))))):Calls Tryz.prog 156 #[agg #[int i64 vk,int i64 vn,int i64 vd,string vs]] w R :=
 fnc0 (an:={}) (args:=[.a (.agg [.v (.int .i64 vk),.v (.int .i64 vn),.v (.int .i64 vd),.v (.string vs)])]) Tryz_ok Tryz.func156 (by kernel_rfl) rfl rfl h
theorem fits_vc{vk vn vd:Int}{vs:ByteArray}{t:Int}{w:World}{R:Ending→World→Prop}
 (h :
 ∀k1,w.heap.size≤k1→
 ∀w1,KpL [] w w1→
 CallW Tryz.prog 156 (#[agg #[int i64 vk,int i64 vn,int i64 vd,string vs]]) w1 fun e1 w2 =>
 ∃b1,e1=returned (Value.bool b1)∧
 KpL [] w1 w2∧
 ((!b1)=false→
 (¬t<1→
 (4<t→
 R (returned (Value.bool false)) w2)∧
 (¬4<t→
 (vk=1→
 R (returned (Value.bool (decide (t=1)))) w2)∧
 (¬vk=1→
 (vk=2→
 (¬t=3→
 (t=2→
 R (returned (Value.bool (decide (vd=1)))) w2)∧
 (¬t=2→
 R (returned (Value.bool false)) w2))∧
 (t=3→
 R (returned (Value.bool true)) w2))∧
 (¬vk=2→
 (vk=3→
 R (returned (Value.bool (decide (t=4)))) w2)∧
 (¬vk=3→
 R (returned (Value.bool true)) w2)))))∧
 (t<1→
 R (returned (Value.bool false)) w2))∧
 ((!b1)=true→
 R (returned (Value.bool false)) w2)):Calls Tryz.prog 106 #[agg #[int i64 vk,int i64 vn,int i64 vd,string vs],int i64 t] w R :=
 fnc0 (an:={}) (args:=[.a (.agg [.v (.int .i64 vk),.v (.int .i64 vn),.v (.int .i64 vd),.v (.string vs)]),.a (.c (.v (.int .i64 t)))]) Tryz_ok Tryz.func106 (by kernel_rfl) rfl rfl h
theorem compareI_vc{x:Int}{y:Int}{w:World}{R:Ending→World→Prop}
 (h :
 CallW Tryz.prog 160 #[int i64 x] w fun e1 w1 =>
 ∃b1,e1=returned (Value.bool b1)∧
 KpL [] w w1∧
 CallW Tryz.prog 160 #[int i64 y] w1 fun e2 w2 =>
 ∃b2,e2=returned (Value.bool b2)∧
 KpL [] w1 w2∧
 (b1=true→
 (b2=true→
 R (returned (int i64 0)) w2)∧
 (b2=false→
 R (returned (int i64 (-1))) w2))∧
 (b1=false→
 (b2=true→
 R (returned (int i64 1)) w2)∧
 (b2=false→
 (x<y→
 R (returned (int i64 (-1))) w2)∧
 (¬x<y→
 (y<x→
 R (returned (int i64 1)) w2)∧
 (¬y<x→
 R (returned (int i64 0)) w2))))):Calls Tryz.prog 121 #[int i64 x,int i64 y] w R :=
 fnc0 (an:={}) (args:=[.a (.c (.v (.int .i64 x))),.a (.c (.v (.int .i64 y)))]) Tryz_ok Tryz.func121 (by kernel_rfl) rfl rfl h
theorem isNaN_vc{x:Int}{w:World}{R:Ending→World→Prop}
 (h :
 R (returned (Value.bool (decide (x≠x)))) w):Calls Tryz.prog 160 #[int i64 x] w R :=
 fnc0 (an:={}) (args:=[.a (.c (.v (.int .i64 x)))]) Tryz_ok Tryz.func160 (by kernel_rfl) rfl rfl h
theorem compareS_vc{aa:Option Addr}{an ac:Nat}{ba:Option Addr}{bn bc:Nat}{w:World}{R:Ending→World→Prop}
 (h :
 CallW Tryz.prog 122 #[slice aa an ac,slice ba bn bc] w fun e1 w1 =>
 ∃n1,e1=returned (int i64 n1)∧
 KpL [] w w1∧
 R (returned (int i64 n1)) w1):Calls Tryz.prog 138 #[slice aa an ac,slice ba bn bc] w R :=
 fnc0 (an:={}) (args:=[.a (.c (.v (.slice aa an ac))),.a (.c (.v (.slice ba bn bc)))]) Tryz_ok Tryz.func138 (by kernel_rfl) rfl rfl h
theorem of__vc{aa:Option Addr}{an ac:Nat}{ba:Option Addr}{bn bc:Nat}{w:World}{R:Ending→World→Prop}
 (h :
 ((↑bn:Int)≠(↑an:Int)→
 R (returned (Value.bool false)) w)∧
 (¬(↑bn:Int)≠(↑an:Int)→
 ∃(P1:List Value→World→Prop) (P2:List Value→World→Nat),P1 [int i64 0] w∧
 ∀n1 w1,P1 [int i64 n1] w1→
 (n1<(↑bn:Int)→
 ∃d1,ba=some d1∧
 0≤n1∧
 n1<(↑bn:Int)∧
 ∃n2,LdA w1 (d1.add (n1.toNat*1)) [int i64 n2]∧
 ∃d2,aa=some d2∧
 0≤n1∧
 n1<(↑an:Int)∧
 ∃n3,LdA w1 ((d2.add (n1.toNat*3)).add 1) [int i64 n3]∧
 (¬n2<n3→
 ∃d3,aa=some d3∧
 0≤n1∧
 n1<(↑an:Int)∧
 ∃s1 n4 n5,LdA w1 (d3.add (n1.toNat*3)) [string s1,int i64 n4,int i64 n5]∧
 CallW Tryz.prog 197 (#[agg #[string s1,int i64 n4,int i64 n5]]) w1 fun e1 w2 =>
 ∃n6,e1=returned (int i64 n6)∧
 KpL [] w1 w2∧
 (n6<n2→
 R (returned (Value.bool false)) w2)∧
 (¬n6<n2→
 InI i64 (n1+1)∧
 P1 [int i64 (n1+1)] w2∧
 P2 [int i64 (n1+1)] w2<P2 [int i64 n1] w1))∧
 (n2<n3→
 R (returned (Value.bool false)) w1))∧
 (¬n1<(↑bn:Int)→
 R (returned (Value.bool true)) w1))):Calls Tryz.prog 163 #[slice aa an ac,slice ba bn bc] w R :=
 fnc0 (an:={ loops:=[⟨4,[14],[4,5,6,15,16,17,18,19,20,21,22,23,24,25,26,27,28,29,30,31,32,33,34,35],[]⟩] }) (args:=[.a (.c (.v (.slice aa an ac))),.a (.c (.v (.slice ba bn bc)))]) Tryz_ok Tryz.func163 (by kernel_rfl) rfl rfl h
theorem cell_vc{aa:Option Addr}{an ac:Nat}{ba:Option Addr}{bn bc:Nat}{cxa:Option Addr}{cxn cxc:Nat}{cya:Option Addr}{cyn cyc:Nat}{w:World}{R:Ending→World→Prop}
 (h :
 ∀k1,w.heap.size≤k1→
 (¬(↑cxn:Int)≠(↑an:Int)→
 ((↑cyn:Int)≠(↑bn:Int)→
 ∀w1,KpL [] w w1→
 R (returned (int i64 13)) w1)∧
 (¬(↑cyn:Int)≠(↑bn:Int)→
 ∀w2,KpL [] w w2→
 CallW Tryz.prog 163 #[slice aa an ac,slice cxa cxn cxc] w2 fun e1 w3 =>
 ∃b1,e1=returned (Value.bool b1)∧
 KpL [] w2 w3∧
 ((!b1)=true→
 R (returned (int i64 3)) w3)∧
 ((!b1)=false→
 ∃(P1:List Value→World→Prop) (P2:List Value→World→Nat),P1 [int i64 0] w3∧
 ∀n1 w4,P1 [int i64 n1] w4→
 (n1<(↑cyn:Int)→
 ∃d1,cya=some d1∧
 0≤n1∧
 n1<(↑cyn:Int)∧
 ∃n2 n3 n4 s1,LdA w4 (d1.add (n1.toNat*4)) [int i64 n2,int i64 n3,int i64 n4,string s1]∧
 ∀k2,w4.heap.size≤k2→
 ∃d2,ba=some d2∧
 0≤n1∧
 n1<(↑bn:Int)∧
 ∃n5,LdA w4 ((d2.add (n1.toNat*2)).add 1) [int i64 n5]∧
 ∀w5,KpL [] w4 w5→
 CallW Tryz.prog 106 (#[agg #[int i64 n2,int i64 n3,int i64 n4,string s1],int i64 n5]) w5 fun e2 w6 =>
 ∃b2,e2=returned (Value.bool b2)∧
 KpL [] w5 w6∧
 ((!b2)=true→
 R (returned (int i64 12)) w6)∧
 ((!b2)=false→
 InI i64 (n1+1)∧
 P1 [int i64 (n1+1)] w6∧
 P2 [int i64 (n1+1)] w6<P2 [int i64 n1] w4))∧
 (¬n1<(↑cyn:Int)→
 R (returned (int i64 0)) w4))))∧
 ((↑cxn:Int)≠(↑an:Int)→
 ∀w7,KpL [] w w7→
 R (returned (int i64 13)) w7)):Calls Tryz.prog 134 #[slice aa an ac,slice ba bn bc,agg #[slice cxa cxn cxc,slice cya cyn cyc]] w R :=
 fnc0 (an:={ loops:=[⟨6,[31],[6,7,8,32,33,34,35,36,37,38,39,40,41,42,43,44],[]⟩] }) (args:=[.a (.c (.v (.slice aa an ac))),.a (.c (.v (.slice ba bn bc))),.a (.agg [.v (.slice cxa cxn cxc),.v (.slice cya cyn cyc)])]) Tryz_ok Tryz.func134 (by kernel_rfl) rfl rfl h
theorem copied_vc{cxa:Option Addr}{cxn cxc:Nat}{cya:Option Addr}{cyn cyc:Nat}{w:World}{R:Ending→World→Prop}
 (h :
 ∀k1,w.heap.size≤k1→
 ∀k2,w.heap.size≤k2→
 ∀w1,KpL [] w w1→
 Hb w1 k2 #[slice none 0 0,slice none 0 0] 147∧
 Hb w1 k1 #[slice cxa cxn cxc,slice cya cyn cyc] 147→
 CallW Tryz.prog 68 #[slice cxa cxn cxc] w1 fun e1 w2 =>
 ∃a1 k3 k4,e1=returned (slice a1 k3 k4)∧
 KpL [] w1 w2∧
 (Hb w2 k2 #[slice none 0 0,slice none 0 0] 147∧
 Hb w2 k1 #[slice cxa cxn cxc,slice cya cyn cyc] 147→
 CallW Tryz.prog 77 #[slice cya cyn cyc] w2 fun e2 w3 =>
 ∃a2 k5 k6,e2=returned (slice a2 k5 k6)∧
 KpL [] w2 w3∧
 ∀w4,KpL [k2] w3 w4→
 Hb w4 k2 #[slice a1 k3 k4,slice a2 k5 k6] 147∧
 Hb w4 k1 #[slice cxa cxn cxc,slice cya cyn cyc] 147→
 R (returned (agg #[slice a1 k3 k4,slice a2 k5 k6])) w4)):Calls Tryz.prog 166 #[agg #[slice cxa cxn cxc,slice cya cyn cyc]] w R :=
 fnc0 (an:={ all:=true }) (args:=[.a (.agg [.v (.slice cxa cxn cxc),.v (.slice cya cyn cyc)])]) Tryz_ok Tryz.func166 (by kernel_rfl) rfl rfl h
theorem formed_vc{bxa:Option Addr}{bxn bxc:Nat}{bya:Option Addr}{byn byc:Nat}{w:World}{R:Ending→World→Prop}
 (h :
 ∀k1,w.heap.size≤k1→
 ((↑bxn:Int)=(↑byn:Int)→
 ((0:Int)<(↑bxn:Int)→
 ∀w1,KpL [] w w1→
 R (returned (Value.bool (decide ((↑bxn:Int)≤(4:Int))))) w1)∧
 (¬(0:Int)<(↑bxn:Int)→
 ∀w2,KpL [] w w2→
 R (returned (Value.bool false)) w2))∧
 (¬(↑bxn:Int)=(↑byn:Int)→
 ∀w3,KpL [] w w3→
 R (returned (Value.bool false)) w3)):Calls Tryz.prog 154 #[agg #[slice bxa bxn bxc,slice bya byn byc]] w R :=
 fnc0 (an:={}) (args:=[.a (.agg [.v (.slice bxa bxn bxc),.v (.slice bya byn byc)])]) Tryz_ok Tryz.func154 (by kernel_rfl) rfl rfl h
theorem upTo_vc{x:Int}{y:Int}{w:World}{R:Ending→World→Prop}
 (h :
 (¬x≤y→
 R (returned (Value.bool (decide (1073741825≤y)))) w)∧
 (x≤y→
 R (returned (Value.bool true)) w)):Calls Tryz.prog 155 #[int i64 x,int i64 y] w R :=
 fnc0 (an:={}) (args:=[.a (.c (.v (.int .i64 x))),.a (.c (.v (.int .i64 y)))]) Tryz_ok Tryz.func155 (by kernel_rfl) rfl rfl h
theorem has_vc{bxa:Option Addr}{bxn bxc:Nat}{bya:Option Addr}{byn byc:Nat}{ca:Option Addr}{cn cc:Nat}{w:World}{R:Ending→World→Prop}
 (h :
 ∀k1,w.heap.size≤k1→
 ∀w1,KpL [] w w1→
 CallW Tryz.prog 154 (#[agg #[slice bxa bxn bxc,slice bya byn byc]]) w1 fun e1 w2 =>
 ∃b1,e1=returned (Value.bool b1)∧
 KpL [] w1 w2∧
 ((!b1)=false→
 ((↑cn:Int)≠(↑bxn:Int)→
 R (returned (Value.bool false)) w2)∧
 (¬(↑cn:Int)≠(↑bxn:Int)→
 ∃(P1:List Value→World→Prop) (P2:List Value→World→Nat),P1 [int i64 0] w2∧
 ∀n1 w3,P1 [int i64 n1] w3→
 (n1<(↑cn:Int)→
 ∃d1,ca=some d1∧
 0≤n1∧
 n1<(↑cn:Int)∧
 ∃n2,LdA w3 (d1.add (n1.toNat*1)) [int i64 n2]∧
 ∃d2,bxa=some d2∧
 0≤n1∧
 n1<(↑bxn:Int)∧
 ∃n3,LdA w3 (d2.add (n1.toNat*1)) [int i64 n3]∧
 (¬n2<n3→
 ∃d3,bya=some d3∧
 0≤n1∧
 n1<(↑byn:Int)∧
 ∃n4,LdA w3 (d3.add (n1.toNat*1)) [int i64 n4]∧
 CallW Tryz.prog 155 #[int i64 n2,int i64 n4] w3 fun e2 w4 =>
 ∃b2,e2=returned (Value.bool b2)∧
 KpL [] w3 w4∧
 ((!b2)=true→
 R (returned (Value.bool false)) w4)∧
 ((!b2)=false→
 InI i64 (n1+1)∧
 P1 [int i64 (n1+1)] w4∧
 P2 [int i64 (n1+1)] w4<P2 [int i64 n1] w3))∧
 (n2<n3→
 R (returned (Value.bool false)) w3))∧
 (¬n1<(↑cn:Int)→
 R (returned (Value.bool true)) w3)))∧
 ((!b1)=true→
 R (returned (Value.bool false)) w2)):Calls Tryz.prog 105 #[agg #[slice bxa bxn bxc,slice bya byn byc],slice ca cn cc] w R :=
 fnc0 (an:={ loops:=[⟨4,[20],[4,5,6,21,22,23,24,25,26,27,28,29,30,31,32,33,34,35,36,37,38,39,40,41,42],[]⟩] }) (args:=[.a (.agg [.v (.slice bxa bxn bxc),.v (.slice bya byn byc)]),.a (.c (.v (.slice ca cn cc)))]) Tryz_ok Tryz.func105 (by kernel_rfl) rfl rfl h
theorem indexFunc_vc{s:ByteArray}{f:Nat}{fi ca:Array Value}{b:Bool}{w:World}{R:Ending→World→Prop}
 (h :
 Ev Tryz.prog (Instr.range 9 (string s)) w fun y1 w1 =>
 ∃d1,y1=pointer (some d1)∧
 ∃l1,KpL l1 w w1∧
 ∃(P1:List Value→World→Prop) (P2:List Value→World→Nat),P1 [] w1∧
 ∀w2,P1 [] w2→
 Ev Tryz.prog (Instr.next (pointer (some d1)) true 0) w2 fun y2 w3 =>
 (y2=tuple #[Value.bool false]∧
 ∃l2,KpL l2 w2 w3∧
 R (returned (int i64 (-1))) w3)∨
 (∃n1 n2,y2=tuple #[Value.bool true,int i64 n1,int i32 n2]∧
 ∃l3,KpL l3 w2 w3∧
 FuncOk Tryz.prog f∧
 CallW Tryz.prog f ((fi.toList++[int i32 n2]++ca.toList).toArray) w3 fun e1 w4 =>
 ∃b1,e1=returned (Value.bool b1)∧
 ∃l4,KpL l4 w3 w4∧
 ((b1 == b)=true→
 R (returned (int i64 n1)) w4)∧
 ((b1 == b)=false→
 P1 [] w4∧
 P2 [] w4<P2 [] w2))):Calls Tryz.prog 204 #[string s,func (Fn.func f) fi ca,Value.bool b] w R :=
 fnc0 (an:={ loops:=[⟨2,[],[6,7,8,11,12,13,14,15,16,17,18,19,20],[]⟩],ent:=[3,21] }) (args:=[.a (.c (.v (.string s))),.a (.c (.v (.func (.func f) fi ca))),.a (.c (.v (.bool b)))]) Tryz_ok Tryz.func204 (by kernel_rfl) rfl rfl h
theorem IndexFunc_vc{s:ByteArray}{f:Nat}{fi ca:Array Value}{w:World}{R:Ending→World→Prop}
 (h :
 CallW Tryz.prog 204 #[string s,func (Fn.func f) fi ca,Value.bool true] w fun e1 w1 =>
 ∃n1,e1=returned (int i64 n1)∧
 KpL [] w w1∧
 R (returned (int i64 n1)) w1):Calls Tryz.prog 186 #[string s,func (Fn.func f) fi ca] w R :=
 fnc0 (an:={}) (args:=[.a (.c (.v (.string s))),.a (.c (.v (.func (.func f) fi ca)))]) Tryz_ok Tryz.func186 (by kernel_rfl) rfl rfl h
end Go.Vc
namespace Go.Vc
open Go Go.Proofs
def nameC(i:Nat)(c:Int):Bool:=(decide (97≤c)&&decide (c≤122)) || (decide (i≠0)&&(decide (c=95) || (decide (48≤c)&&decide (c≤57))))
def nameL:Nat→List Int→Bool
 |_,[]=>true
 |i,c::r=>nameC i c&&nameL (i+1) r
def nameOk(s:ByteArray):Bool:=decide (1≤s.size)&&(decide (s.size≤12)&&nameL 0 (strI s))
theorem u33:Tryz.prog.underlying 33=some (.slice 5):=by kernel_rfl
theorem u5:Tryz.prog.underlying 5=some (.int .u8):=by kernel_rfl
theorem name_ok(s:ByteArray)(w:World):Calls Tryz.prog 98 #[.string s] w (PureR (.bool (nameOk s)) w):=by
 refine name_vc ⟨fun h1=>⟨fun h2=>⟨?_,KpL.refl _ _⟩,fun h2=>?_⟩,fun h1=>⟨?_,KpL.refl _ _⟩⟩
 ·have:nameOk s=false:=by unfold nameOk;rw[decide_eq_false (p:=s.size≤12) (by omega)];simp
  rw[this]
 ·refine ev_bytes u9 u33 u5 (by have:maxSl=140737488355328:=rfl;omega) fun a c w1 hk1 hR=>⟨_,_,_,rfl,_,hk1,fun vs w'=>∃i:Nat,vs=[.int .i64 (i:Int)]∧i≤s.size∧KpL [] w1 w'∧nameOk s=nameL i ((strI s).drop i),
   fun vs _=>match vs with|[.int _ i]=>s.size - i.toNat|_=>0,⟨0,rfl,by omega,KpL.refl _ _,?_⟩,?_⟩
  ·unfold nameOk
   rw[decide_eq_true (p:=1≤s.size) (by omega),decide_eq_true (p:=s.size≤12) (by omega)]
   simp
  rintro n1 w2 ⟨i,hv,hi,hk2,he⟩
  simp only[List.cons.injEq,Value.int.injEq,true_and,and_true]at hv
  subst hv
  have hRs:=(hR [] (by simp)).kp0 hk2
  constructor
  ·intro hlt
   have hil:i<(strI s).length:=by rw[strI_length];omega
   obtain⟨ad,cs,rfl,hv1,hld,_,_⟩:=hRs.sl_get hil
   obtain⟨rfl,hin⟩:=hv1.intD
   rw[List.drop_eq_getElem_cons hil,nameL]at he
   generalize (strI s)[i]=x at *
   have stop:nameC i x=false→PureR (.bool (nameOk s)) w (.returned (.bool false)) w2:=fun h=>⟨by rw[he,h];rfl,hk1.trans hk2⟩
   have cont:nameC i x=true→InI .i64 ((i:Int)+1)∧(∃j:Nat,[Value.int .i64 ((i:Int)+1)]=[.int .i64 (j:Int)]∧j≤s.size∧KpL [] w1 w2∧nameOk s=nameL j ((strI s).drop j))∧s.size - ((i:Int)+1).toNat<s.size - (i:Int).toNat:=fun h =>
    ⟨ini_i64.2 (by omega),⟨i+1,by simp,by omega,hk2,by rw[he,h];simp⟩,by omega⟩
   refine⟨ad,rfl,by omega,hlt,x,hld,fun g1=>⟨fun g2=>⟨fun g3=>⟨fun g4=>⟨fun g5=>⟨fun g6=>stop ?_,fun g6=>cont ?_⟩,fun g5=>stop ?_⟩,fun g4=>cont ?_⟩,fun g3=>stop ?_⟩,fun g2=>cont ?_⟩,
    fun g1=>⟨fun g3=>⟨fun g4=>⟨fun g5=>⟨fun g6=>stop ?_,fun g6=>cont ?_⟩,fun g5=>stop ?_⟩,fun g4=>cont ?_⟩,fun g3=>stop ?_⟩⟩<;>simp[nameC]<;>omega
  ·intro hge
   have hi':i=s.size:=by omega
   rw[hi',List.drop_eq_nil_of_le (by rw[strI_length];exact Nat.le_refl _)]at he
   exact⟨by rw[he];rfl,hk1.trans hk2⟩
 ·have:nameOk s=false:=by unfold nameOk;rw[decide_eq_false (p:=1≤s.size) (by omega)];rfl
  rw[this]
def Dim.last(d:Dim):Int:=min d.hi 1073741824
theorem last_ok(d:Dim)(w:World):Calls Tryz.prog 197 #[.agg #[.string d.name,.int .i64 d.lo,.int .i64 d.hi]] w (PureR (.int .i64 d.last) w) :=
 last_vc fun _ _=>⟨_,pv_min,fun _ hk=>⟨rfl,hk⟩⟩
theorem gcd_ok{x y:Int}(hx:0≤x)(hy:0≤y)(w:World):Calls Tryz.prog 184 #[.int .i64 x,.int .i64 y] w (PureR (.int .i64 (Nat.gcd x.toNat y.toNat)) w):=by
 refine gcd_vc ⟨fun vs w'=>∃a b:Nat,vs=[.int .i64 (a:Int),.int .i64 (b:Int)]∧KpL [] w w'∧Nat.gcd a b=Nat.gcd x.toNat y.toNat,fun vs _=>match vs with|[_,.int _ b]=>b.toNat|_=>0,
  ⟨x.toNat,y.toNat,by rw[Int.toNat_of_nonneg hx,Int.toNat_of_nonneg hy],KpL.refl _ _,rfl⟩,?_⟩
 rintro n1 n2 w1 ⟨a,b,hv,hk,he⟩
 simp only[List.cons.injEq,Value.int.injEq,true_and,and_true]at hv
 obtain⟨rfl,rfl⟩:=hv
 have hm:Int.tmod (a:Int) (b:Int)=((a%b:Nat):Int):=by rw[Int.tmod_eq_emod_of_nonneg (by omega),Int.natCast_emod]
 constructor
 ·intro hne
  have hb:0<b:=by omega
  have:=Nat.mod_lt a hb
  refine⟨hne,fun w2 hk2=>⟨⟨b,a%b,by rw[hm],hk.trans hk2,?_⟩,?_⟩⟩
  ·rw[←he,Nat.gcd_comm b,←Nat.gcd_rec,Nat.gcd_comm]
  ·rw[hm]
   show((a%b:Nat):Int).toNat<(b:Int).toNat
   omega
 ·intro hz
  have hb:b=0:=by omega
  subst hb
  rw[Nat.gcd_zero_right]at he
  exact⟨by rw[he],hk⟩
def Vl.plain(v:Vl):Bool:=decide (v.d=0)&&decide (v.s=ByteArray.empty)
abbrev Vl.agg(v:Vl):Value:=.agg #[.int .i64 v.k,.int .i64 v.n,.int .i64 v.d,.string v.s]
theorem plain_ok(v:Vl)(w:World):Calls Tryz.prog 183 #[v.agg] w (PureR (.bool v.plain) w):=by
 refine plain_vc fun _ _=>⟨fun h w1 hk=>⟨?_,hk⟩,fun h w1 hk=>⟨?_,hk⟩⟩
 ·unfold Vl.plain
  rw[decide_eq_true h]
  rfl
 ·unfold Vl.plain
  rw[decide_eq_false h]
  rfl
def textL(l:List Int):Bool:=l.all fun c=>decide (32≤c)&&decide (c≤126)
theorem odd_ok(x:Int)(w:World):Calls Tryz.prog 185 #[.int .i32 x] w (PureR (.bool (!(decide (32≤x)&&decide (x≤126)))) w):=by
 refine odd_vc ⟨fun h=>⟨?_,KpL.refl _ _⟩,fun h=>⟨?_,KpL.refl _ _⟩⟩
 ·rw[decide_eq_true (p:=32≤x) (by omega)]
  by_cases h2:126<x
  ·simp[h2]
  ·simp[h2];omega
 ·rw[decide_eq_false (p:=32≤x) (by omega)]
  rfl
end Go.Vc
namespace Go.Vc
open Go Go.Proofs
theorem ev_next_str{P:Program}{w:World}{r pos ty:Nat}{s:ByteArray}(h:w.heap[r]?=some (.stringIter s pos)){Q:Value→World→Prop}(h1:¬pos<s.size→Q (.tuple #[.bool false]) w)
 (h2:pos<s.size→∀w',w'.heap[r]?=some (.stringIter s (pos+(Utf8.decode s pos).2))→KpL [r] w w'→Q (.tuple #[.bool true,.int .i64 pos,.int .i32 ((Utf8.decode s pos).1:Nat)]) w'):
 Ev P (Instr.next (.pointer (some ⟨r,0,none⟩)) true ty) w Q:=by
 by_cases hp:pos<s.size
 ·refine⟨_,{ w with heap:=w.heap.setIfInBounds r (.stringIter s (pos+(Utf8.decode s pos).2)) },?_,h2 hp _ ?_ ⟨rfl,rfl,rfl,Nat.le_refl _,by simp,fun b hb hn=>?_⟩⟩
  ·simp[Instr.next,getObj,setObj,Sem.run,h,hp,Result.andThen,goInt]
  ·have hr:=block_lt h
   simp[hr]
  ·simp only[List.mem_singleton]at hn
   simp[Array.getElem?_setIfInBounds,Ne.symm hn]
 ·refine⟨_,w,?_,h1 hp⟩
  simp[Instr.next,getObj,Sem.run,h,hp,Result.andThen]
theorem idxText_ok(s:ByteArray)(w:World):Calls Tryz.prog 186 #[.string s,.func (.func 185) #[] #[]] w fun e w'=>KpL [] w w'∧∃n,e=.returned (.int .i64 n)∧(n<0↔textL (strI s)=true):=by
 refine IndexFunc_vc ⟨Calls.mono (R:=fun e w'=>KpL [] w w'∧∃n,e=.returned (.int .i64 n)∧(n<0↔textL (strI s)=true)) ?_ ?_⟩
 ·refine indexFunc_vc ⟨_,_,run_range_string w 9 s u9,?_⟩
  have hk1:KpL [] w (w.iter s 0):=(KpL.refl [] w).alloc _
  have hb1:(w.iter s 0).heap[w.heap.size]?=some (.stringIter s 0):=World.iter_heap w s 0
  refine⟨_,rfl,[],hk1,fun vs w'=>vs=[]∧KpL [] w w'∧∃pos,w'.heap[w.heap.size]?=some (.stringIter s pos)∧pos≤s.size∧textL ((strI s).take pos)=true,
   fun _ w'=>match w'.heap[w.heap.size]? with|some (.stringIter _ pos)=>s.size - pos|_=>0,⟨rfl,hk1,0,hb1,by omega,rfl⟩,?_⟩
  rintro w2 ⟨_,hk2,pos,hb2,hpos,ht⟩
  refine ev_next_str hb2 (fun hge=>.inl ⟨rfl,[],KpL.refl _ _,hk2,_,rfl,?_⟩) fun hlt w3 hb3 hk3=>.inr ⟨_,_,rfl,[_],hk3,⟨_,_,Tryz.func185,rfl⟩,⟨(odd_ok _ w3).mono ?_⟩⟩
  ·rw[List.take_of_length_le (by rw[strI_length];omega)]at ht
   simp[ht]
  have hk03:KpL [] w w3:=hk2.more hk3 (by simp)
  have hil:pos<(strI s).length:=by rw[strI_length];exact hlt
  have hget:(strI s)[pos]=((s[pos]'hlt).toNat:Int):=by
   rw[strI_get s pos hlt]
   have:pos<s.data.toList.length:=by rw[Array.length_toList];exact hlt
   rw[List.getD_eq_getElem?_getD,List.getElem?_eq_getElem this,Option.getD_some]
   rfl
  rintro e w4 ⟨rfl,hk4⟩
  by_cases hasc:(s[pos]'hlt).toNat<128
  ·have hd:=decode_ascii s pos hlt hasc
   rw[hd]at hb3 ⊢
   refine⟨_,rfl,[],hk4,fun hodd=>?_,fun hev=>?_⟩
   ·refine⟨hk03.trans hk4,_,rfl,?_⟩
    simp only[beq_true,Bool.not_eq_true',Bool.and_eq_false_iff,decide_eq_false_iff_not]at hodd
    constructor
    ·intro h;omega
    ·intro h
     have:=List.all_eq_true.1 h _ (List.getElem_mem hil)
     rw[hget]at this
     simp at this
     omega
   ·have hb4:=(hk4.blk _ (block_lt hb3) (by simp)).trans hb3
    simp only[beq_true,Bool.not_eq_false',Bool.and_eq_true,decide_eq_true_eq]at hev
    refine⟨⟨rfl,hk03.trans hk4,pos+1,hb4,hlt,?_⟩,?_⟩
    ·rw[←List.take_append_getElem hil]
     unfold textL at ht ⊢
     rw[List.all_append,ht,hget]
     simp[hev]
    ·simp only[hb4,hb2]
     omega
  ·have hd:=decode_high s pos hlt (by omega)
   refine⟨_,rfl,[],hk4,fun _=>⟨hk03.trans hk4,_,rfl,?_⟩,fun hev=>?_⟩
   ·constructor
    ·intro h;omega
    ·intro h
     have:=List.all_eq_true.1 h _ (List.getElem_mem hil)
     rw[hget]at this
     simp at this
     omega
   ·simp only[beq_true,Bool.not_eq_false',Bool.and_eq_true,decide_eq_true_eq]at hev
    omega
 ·rintro e w1 ⟨hk,n,rfl,hn⟩
  exact⟨_,rfl,hk,hk,_,rfl,hn⟩
def Vl.right(v:Vl):Bool :=
 if v.k=0 then v.plain&&(decide (1≤v.n)&&decide (v.n≤255))
 else if v.k=1 then v.plain&&(decide (v.n=0) || decide (v.n=1))
 else if v.k=2 then decide (v.s=ByteArray.empty)&&(decide (1≤v.d)&&(decide (v.d≤1099511627776)&&(decide (-1099511627776≤v.n)&&(decide (v.n≤1099511627776)&&decide (Nat.gcd (max v.n (0 - v.n)).toNat v.d.toNat=1)))))
 else if v.k=3 then decide (v.n=0)&&(decide (v.d=0)&&(decide (v.s.size≤16)&&textL (strI v.s)))
 else false
theorem right_ok(v:Vl)(w:World):Calls Tryz.prog 156 #[v.agg] w (PureR (.bool v.right) w):=by
 have fl:∀{w':World} {b:Bool},b=v.right→KpL [] w w'→PureR (.bool v.right) w (.returned (.bool b)) w':=by
  rintro w' b rfl hk;exact⟨rfl,hk⟩
 refine right_vc fun _ _=>⟨fun h0 w1 hk1=>⟨(plain_ok v w1).mono ?_⟩,fun h0=>⟨fun h1 w1 hk1=>⟨(plain_ok v w1).mono ?_⟩,fun h1=>⟨fun h2=>?_,fun h2=>⟨fun h3=>?_,fun h3 w1 hk1=>fl ?_ hk1⟩⟩⟩⟩
 ·rintro e w2 ⟨rfl,hk2⟩
  have e0:v.right=(v.plain&&(decide (1≤v.n)&&decide (v.n≤255))):=by unfold Vl.right;rw[if_pos h0]
  refine⟨_,rfl,hk2,fun hp=>⟨fun hn=>fl ?_ (hk1.trans hk2),fun hn=>fl ?_ (hk1.trans hk2)⟩,fun hp=>fl ?_ (hk1.trans hk2)⟩<;>rw[e0,hp]<;>simp[*]
 ·rintro e w2 ⟨rfl,hk2⟩
  have e0:v.right=(v.plain&&(decide (v.n=0) || decide (v.n=1))):=by unfold Vl.right;rw[if_neg h0,if_pos h1]
  refine⟨_,rfl,hk2,fun hp=>⟨fun hn=>fl ?_ (hk1.trans hk2),fun hn=>fl ?_ (hk1.trans hk2)⟩,fun hp=>fl ?_ (hk1.trans hk2)⟩<;>rw[e0,hp]<;>simp[*]
 ·have e0:v.right=(decide (v.s=ByteArray.empty)&&(decide (1≤v.d)&&(decide (v.d≤1099511627776)&&(decide (-1099511627776≤v.n)&&(decide (v.n≤1099511627776)&&decide (Nat.gcd (max v.n (0 - v.n)).toNat v.d.toNat=1)))))):=by
   unfold Vl.right;rw[if_neg h0,if_neg h1,if_pos h2]
  refine⟨fun g1=>⟨fun g2=>⟨fun g3=>⟨fun g4=>⟨fun g5=>⟨ini_i64.2 (by omega),_,pv_max,fun w1 hk1=>⟨(gcd_ok (by omega) (by omega) w1).mono ?_⟩⟩,fun g5 w1 hk1=>fl ?_ hk1⟩,fun g4 w1 hk1=>fl ?_ hk1⟩,fun g3 w1 hk1=>fl ?_ hk1⟩,fun g2 w1 hk1=>fl ?_ hk1⟩,fun g1 w1 hk1=>fl ?_ hk1⟩
  ·rintro e w2 ⟨rfl,hk2⟩
   refine⟨_,rfl,hk2,fl ?_ (hk1.trans hk2)⟩
   have g1':v.s=ByteArray.empty:=g1
   rw[e0,decide_eq_true g1',decide_eq_true g2,decide_eq_true g3,decide_eq_true g4,decide_eq_true g5]
   simp only[Bool.true_and,decide_eq_decide]
   omega
  ·rw[e0,decide_eq_false g5];simp
  ·rw[e0,decide_eq_false g4];simp
  ·rw[e0,decide_eq_false g3];simp
  ·rw[e0,decide_eq_false g2];simp
  ·rw[e0,decide_eq_false (p:=v.s=ByteArray.empty) g1];simp
 ·have e0:v.right=(decide (v.n=0)&&(decide (v.d=0)&&(decide (v.s.size≤16)&&textL (strI v.s)))):=by unfold Vl.right;rw[if_neg h0,if_neg h1,if_neg h2,if_pos h3]
  refine⟨fun g1=>⟨fun g2=>⟨fun g3 w1 hk1=>⟨(idxText_ok v.s w1).mono ?_⟩,fun g3 w1 hk1=>fl ?_ hk1⟩,fun g2 w1 hk1=>fl ?_ hk1⟩,fun g1 w1 hk1=>fl ?_ hk1⟩
  ·rintro e w2 ⟨hk2,n,rfl,hn⟩
   refine⟨_,rfl,hk2,fl ?_ (hk1.trans hk2)⟩
   rw[e0,decide_eq_true g1,decide_eq_true g2,decide_eq_true (p:=v.s.size≤16) (by omega),Bool.true_and,Bool.true_and,Bool.true_and,Bool.eq_iff_iff,decide_eq_true_eq]
   exact hn
  ·rw[e0,decide_eq_false (p:=v.s.size≤16) (by omega)];simp
  ·rw[e0,decide_eq_false g2];simp
  ·rw[e0,decide_eq_false g1];simp
 ·unfold Vl.right;rw[if_neg h0,if_neg h1,if_neg h2,if_neg h3]
end Go.Vc
namespace Go.Vc
open Go Go.Proofs
def Vl.fits(v:Vl)(t:Int):Bool :=
 v.right&&(decide (1≤t)&&(decide (t≤4)&&(if v.k=1 then decide (t=1) else if v.k=2 then (decide (t=3) || (decide (t=2)&&decide (v.d=1))) else if v.k=3 then decide (t=4) else true)))
theorem fits_ok(v:Vl)(t:Int)(w:World):Calls Tryz.prog 106 #[v.agg,.int .i64 t] w (PureR (.bool (v.fits t)) w):=by
 refine fits_vc fun _ _ w1 hk1=>⟨(right_ok v w1).mono ?_⟩
 rintro e w2 ⟨rfl,hk2⟩
 have fl:∀{b:Bool},b=v.fits t→PureR (.bool (v.fits t)) w (.returned (.bool b)) w2:=by
  rintro b rfl;exact⟨rfl,hk1.trans hk2⟩
 refine⟨_,rfl,hk2,fun hr=>⟨fun h1=>⟨fun h2=>fl ?_,fun h2=>⟨fun h3=>fl ?_,fun h3=>⟨fun h4=>⟨fun h5=>⟨fun h6=>fl ?_,fun h6=>fl ?_⟩,fun h5=>fl ?_⟩,fun h4=>⟨fun h5=>fl ?_,fun h5=>fl ?_⟩⟩⟩⟩,fun h1=>fl ?_⟩,fun hr=>fl ?_⟩
 all_goals unfold Vl.fits
 ·rw[decide_eq_false (p:=t≤4) (by omega)];simp
 ·rw[show v.right=true from by simpa using hr,decide_eq_true (p:=1≤t) (by omega),decide_eq_true (p:=t≤4) (by omega),if_pos h3];simp
 ·rw[show v.right=true from by simpa using hr,decide_eq_true (p:=1≤t) (by omega),decide_eq_true (p:=t≤4) (by omega),if_neg h3,if_pos h4,decide_eq_false h5,decide_eq_true h6];simp
 ·rw[if_neg h3,if_pos h4,decide_eq_false h5,decide_eq_false h6];simp
 ·rw[show v.right=true from by simpa using hr,decide_eq_true (p:=1≤t) (by omega),decide_eq_true (p:=t≤4) (by omega),if_neg h3,if_pos h4,decide_eq_true h5];simp
 ·rw[show v.right=true from by simpa using hr,decide_eq_true (p:=1≤t) (by omega),decide_eq_true (p:=t≤4) (by omega),if_neg h3,if_neg h4,if_pos h5];simp
 ·rw[show v.right=true from by simpa using hr,decide_eq_true (p:=1≤t) (by omega),decide_eq_true (p:=t≤4) (by omega),if_neg h3,if_neg h4,if_neg h5];simp
 ·rw[decide_eq_false (p:=1≤t) (by omega)];simp
 ·rw[show v.right=false from by simpa using hr];simp
def cmpI(x y:Int):Int:=if x<y then -1 else if y<x then 1 else 0
def cmpL:List Int→List Int→Int
 |[],[]=>0
 |[],_::_ => -1
 |_::_,[]=>1
 |x::r,y::s=>if cmpI x y≠0 then cmpI x y else cmpL r s
theorem isNaN_ok(x:Int)(w:World):Calls Tryz.prog 160 #[.int .i64 x] w (PureR (.bool false) w):=isNaN_vc ⟨by simp,KpL.refl _ _⟩
theorem compareI_ok(x y:Int)(w:World):Calls Tryz.prog 121 #[.int .i64 x,.int .i64 y] w (PureR (.int .i64 (cmpI x y)) w):=by
 refine compareI_vc ⟨(isNaN_ok x w).mono ?_⟩
 rintro e w1 ⟨rfl,hk1⟩
 refine⟨_,rfl,hk1,⟨(isNaN_ok y w1).mono ?_⟩⟩
 rintro e w2 ⟨rfl,hk2⟩
 refine⟨_,rfl,hk2,fun hc=>by simp at hc,fun _=>⟨fun hc=>by simp at hc,fun _=>⟨fun h=>⟨?_,hk1.trans hk2⟩,fun h=>⟨fun h2=>⟨?_,hk1.trans hk2⟩,fun h2=>⟨?_,hk1.trans hk2⟩⟩⟩⟩⟩
 ·unfold cmpI;rw[if_pos h]
 ·unfold cmpI;rw[if_neg h,if_pos h2]
 ·unfold cmpI;rw[if_neg h,if_neg h2]
theorem compare_ok{M M':List Nat}{w:World}{xs ys:List Int}{a b:Option Addr}{n c m q:Nat}(hx:R (tSl (tI .i64)) M w xs [.slice a n c])(hy:R (tSl (tI .i64)) M' w ys [.slice b m q]):
 Calls Tryz.prog 122 #[.slice a n c,.slice b m q] w (PureR (.int .i64 (cmpL xs ys)) w):=by
 obtain⟨rfl,hn1,hn2⟩:=hx.sl_len
 obtain⟨rfl,hm1,hm2⟩:=hy.sl_len
 have hmx:maxSl=140737488355328:=rfl
 refine compare122_vc ⟨fun vs w'=>∃i:Nat,vs=[.int .i64 (i:Int)]∧i≤xs.length∧i≤ys.length∧KpL [] w w'∧cmpL (xs.drop i) (ys.drop i)=cmpL xs ys,fun vs _=>match vs with|[.int _ i]=>xs.length - i.toNat|_=>0,
  ⟨0,rfl,by omega,by omega,KpL.refl _ _,rfl⟩,?_⟩
 rintro n1 w1 ⟨i,hv,hi,hi2,hk,he⟩
 simp only[List.cons.injEq,Value.int.injEq,true_and,and_true]at hv
 subst hv
 constructor
 ·intro hlt
  have h1:i<xs.length:=by omega
  obtain⟨ad,cs,rfl,hv1,hld1,_,_⟩:=(hx.kp0 hk).sl_get h1
  obtain⟨rfl,hok1⟩:=hv1.intD
  rw[List.drop_eq_getElem_cons h1]at he
  refine⟨ad,rfl,by omega,hlt,_,hld1,fun hge=>?_,fun hlt2=>?_⟩
  ·rw[show ys.drop i=[] from List.drop_eq_nil_of_le (by omega)]at he
   exact⟨by rw[←he];rfl,hk⟩
  ·have h2:i<ys.length:=by omega
   obtain⟨ad2,cs2,rfl,hv2,hld2,_,_⟩:=(hy.kp0 hk).sl_get h2
   obtain⟨rfl,hok2⟩:=hv2.intD
   rw[List.drop_eq_getElem_cons h2,cmpL]at he
   refine⟨ad2,rfl,by omega,by omega,_,hld2,⟨(compareI_ok _ _ w1).mono ?_⟩⟩
   rintro e w2 ⟨rfl,hk2⟩
   refine⟨_,rfl,hk2,fun hne=>⟨?_,hk.trans hk2⟩,fun hz=>⟨ini_i64.2 (by omega),⟨i+1,by simp,by omega,by omega,hk.trans hk2,?_⟩,?_⟩⟩
   ·rw[if_pos hne]at he;rw[he]
   ·rw[if_neg hz]at he;exact he
   ·show xs.length - ((i:Int)+1).toNat<xs.length - (i:Int).toNat
    omega
 ·intro hge
  have hix:i=xs.length:=by omega
  rw[hix,List.drop_length]at he
  refine⟨fun hlt=>⟨?_,hk⟩,fun hnl=>⟨?_,hk⟩⟩
  ·have h2:xs.length<ys.length:=by omega
   rw[List.drop_eq_getElem_cons h2]at he
   rw[←he];rfl
  ·rw[show ys.drop xs.length=[] from List.drop_eq_nil_of_le (by omega)]at he
   rw[←he];rfl
theorem compareS_ok{M M':List Nat}{w:World}{xs ys:List Int}{a b:Option Addr}{n c m q:Nat}(hx:R (tSl (tI .i64)) M w xs [.slice a n c])(hy:R (tSl (tI .i64)) M' w ys [.slice b m q]):
 Calls Tryz.prog 138 #[.slice a n c,.slice b m q] w (PureR (.int .i64 (cmpL xs ys)) w):=by
 refine compareS_vc ⟨(compare_ok hx hy).mono ?_⟩
 rintro e w1 ⟨rfl,hk⟩
 exact⟨_,rfl,hk,rfl,hk⟩
structure Cell where
 at_:List Int
 vals:List Vl
deriving DecidableEq
def tCell:Ty Cell:=tM (fun c=>(c.at_,c.vals)) (tP (tSl (tI .i64)) (tSl tVal))
theorem R.cell{M:List Nat}{w:World}{c:Cell}{cs:List Value}(h:R tCell M w c cs):∃a1 n1 c1 a2 n2 c2,cs=[.slice a1 n1 c1,.slice a2 n2 c2]∧R (tSl (tI .i64)) M w c.at_ [.slice a1 n1 c1]∧R (tSl tVal) M w c.vals [.slice a2 n2 c2]:=by
 obtain⟨x,y,rfl,h1,h2⟩:=h
 obtain⟨a1,c1,rfl⟩:=R.sl_form (M:=M) (w:=w) h1
 obtain⟨a2,c2,rfl⟩:=R.sl_form (M:=M) (w:=w) h2
 exact⟨_,_,_,_,_,_,rfl,h1,h2⟩
theorem R.mkCell{M:List Nat}{w:World}{c:Cell}{a1 a2:Option Addr}{n1 c1 n2 c2:Nat}(h1:R (tSl (tI .i64)) M w c.at_ [.slice a1 n1 c1])(h2:R (tSl tVal) M w c.vals [.slice a2 n2 c2]):R tCell M w c [.slice a1 n1 c1,.slice a2 n2 c2] :=
 ⟨_,_,rfl,h1,h2⟩
structure Arr where
 dims:List Dim
 attrs:List Attr
 cells:List Cell
deriving DecidableEq
def tArr:Ty Arr:=tM (fun a=>(a.dims,(a.attrs,a.cells))) (tP (tSl tDim) (tP (tSl tAttr) (tSl tCell)))
theorem R.arr{M:List Nat}{w:World}{c:Arr}{cs:List Value}(h:R tArr M w c cs):∃a1 n1 c1 a2 n2 c2 a3 n3 c3,cs=[.slice a1 n1 c1,.slice a2 n2 c2,.slice a3 n3 c3]∧R (tSl tDim) M w c.dims [.slice a1 n1 c1]∧R (tSl tAttr) M w c.attrs [.slice a2 n2 c2]∧R (tSl tCell) M w c.cells [.slice a3 n3 c3]:=by
 obtain⟨x,y,rfl,h1,u,v,rfl,h2,h3⟩:=h
 obtain⟨a1,c1,rfl⟩:=R.sl_form (M:=M) (w:=w) h1
 obtain⟨a2,c2,rfl⟩:=R.sl_form (M:=M) (w:=w) h2
 obtain⟨a3,c3,rfl⟩:=R.sl_form (M:=M) (w:=w) h3
 exact⟨_,_,_,_,_,_,_,_,_,rfl,h1,h2,h3⟩
theorem R.mkArr{M:List Nat}{w:World}{c:Arr}{a1 a2 a3:Option Addr}{n1 c1 n2 c2 n3 c3:Nat}(h1:R (tSl tDim) M w c.dims [.slice a1 n1 c1])(h2:R (tSl tAttr) M w c.attrs [.slice a2 n2 c2])(h3:R (tSl tCell) M w c.cells [.slice a3 n3 c3]):
 R tArr M w c [.slice a1 n1 c1,.slice a2 n2 c2,.slice a3 n3 c3]:=⟨_,_,rfl,h1,_,_,rfl,h2,h3⟩
structure Nm where
 name:ByteArray
 arr:Arr
deriving DecidableEq
def tNm:Ty Nm:=tM (fun a=>(a.name,a.arr)) (tP tS tArr)
theorem R.nm{M:List Nat}{w:World}{c:Nm}{cs:List Value}(h:R tNm M w c cs):∃a1 n1 c1 a2 n2 c2 a3 n3 c3,cs=[.string c.name,.slice a1 n1 c1,.slice a2 n2 c2,.slice a3 n3 c3]∧c.name.size≤9223372036854775807∧R (tSl tDim) M w c.arr.dims [.slice a1 n1 c1]∧R (tSl tAttr) M w c.arr.attrs [.slice a2 n2 c2]∧R (tSl tCell) M w c.arr.cells [.slice a3 n3 c3]:=by
 obtain⟨x,y,rfl,⟨rfl,h0⟩,h⟩:=h
 obtain⟨a1,n1,c1,a2,n2,c2,a3,n3,c3,rfl,h1,h2,h3⟩:=R.arr (M:=M) (w:=w) h
 exact⟨_,_,_,_,_,_,_,_,_,rfl,h0,h1,h2,h3⟩
theorem R.mkNm{M:List Nat}{w:World}{c:Nm}{a1 a2 a3:Option Addr}{n1 c1 n2 c2 n3 c3:Nat}(h0:c.name.size≤9223372036854775807)(h1:R (tSl tDim) M w c.arr.dims [.slice a1 n1 c1])(h2:R (tSl tAttr) M w c.arr.attrs [.slice a2 n2 c2])(h3:R (tSl tCell) M w c.arr.cells [.slice a3 n3 c3]):
 R tNm M w c [.string c.name,.slice a1 n1 c1,.slice a2 n2 c2,.slice a3 n3 c3]:=⟨[.string c.name],_,rfl,⟨rfl,h0⟩,R.mkArr (c:=c.arr) h1 h2 h3⟩
end Go.Vc
namespace Go.Vc
open Go Go.Proofs
theorem R.sl_get2{α:Type}{e:Ty α}{M:List Nat}{w:World}{xs:List α}{a:Option Addr}{n c:Nat}(h:R (tSl e) M w xs [.slice a n c]){i:Nat}(hi:i<xs.length):
 ∃ad cs,a=some ad∧R e M w xs[i] cs∧LdA w (ad.add (i*e.sz)) cs∧ad.block∉M∧ad.block<w.heap.size∧∀(o:Nat) (m:List Value),(cs.drop o).take m.length=m→LdA w ((ad.add (i*e.sz)).add o) m:=by
 obtain⟨ad,cs,h1,h2,h3,h4,h5⟩:=h.sl_get hi
 refine⟨ad,cs,h1,h2,h3,h4,h5,fun o m hm=>?_⟩
 obtain⟨a',c',he,_,_,h6⟩:=h
 simp only[List.cons.injEq,Value.slice.injEq,and_true]at he
 obtain⟨rfl,rfl,rfl⟩:=he
 obtain⟨b,off,arr,T,fz,rfl,_,_,_⟩:=h6 (by rintro rfl;simp at hi)
 simp only[Option.some.injEq]at h1
 subst h1
 refine h3.sub o m (fun j v hv=>?_) (by rw[add_lit])
 rw[←hm,List.getElem?_take]at hv
 split at hv
 ·rwa [List.getElem?_drop]at hv
 ·cases hv
theorem nb_t{b:Bool}(h:(!b)=true):b=false:=by cases b;rfl;cases h
theorem nb_f{b:Bool}(h:(!b)=false):b=true:=by cases b;cases h;rfl
def ofB:List Dim→List Int→Bool
 |[],[]=>true
 |d::ds,x::xs=>decide (d.lo≤x)&&(decide (x≤d.last)&&ofB ds xs)
 |_,_=>false
theorem ofB_len:∀{ds:List Dim} {xs:List Int},ofB ds xs=true→xs.length=ds.length
 |[],[],_=>rfl
 |d::ds,x::xs,h=>by
  simp only[ofB,Bool.and_eq_true]at h
  simp[ofB_len h.2.2]
 |[],_::_,h=>by simp[ofB]at h
 |_::_,[],h=>by simp[ofB]at h
theorem of_ok{M M':List Nat}{w:World}{ds:List Dim}{xs:List Int}{a b:Option Addr}{n c m q:Nat}(hd:R (tSl tDim) M w ds [.slice a n c])(hx:R (tSl (tI .i64)) M' w xs [.slice b m q]):
 Calls Tryz.prog 163 #[.slice a n c,.slice b m q] w (PureR (.bool (ofB ds xs)) w):=by
 obtain⟨rfl,hn1,hn2⟩:=hd.sl_len
 obtain⟨rfl,hm1,hm2⟩:=hx.sl_len
 have hmx:maxSl=140737488355328:=rfl
 refine of__vc ⟨fun hne=>⟨?_,KpL.refl _ _⟩,fun he=>?_⟩
 ·cases h:ofB ds xs
  ·rfl
  ·have:=ofB_len h;omega
 have hl:xs.length=ds.length:=by have:=Classical.not_not.1 he;omega
 refine⟨fun vs w'=>∃i:Nat,vs=[.int .i64 (i:Int)]∧i≤xs.length∧KpL [] w w'∧ofB (ds.drop i) (xs.drop i)=ofB ds xs,fun vs _=>match vs with|[.int _ i]=>xs.length - i.toNat|_=>0,
  ⟨0,rfl,by omega,KpL.refl _ _,rfl⟩,?_⟩
 rintro n1 w1 ⟨i,hv,hi,hk,he1⟩
 simp only[List.cons.injEq,Value.int.injEq,true_and,and_true]at hv
 subst hv
 constructor
 ·intro hlt
  have h1:i<xs.length:=by omega
  have h2:i<ds.length:=by omega
  obtain⟨ad,cs,rfl,hv1,hld1,_,_⟩:=(hx.kp0 hk).sl_get h1
  obtain⟨rfl,hok1⟩:=hv1.intD
  obtain⟨ad2,cs2,rfl,hv2,hld2,_,_,hpt⟩:=(hd.kp0 hk).sl_get2 h2
  obtain⟨rfl,hok2⟩:=hv2.dim
  rw[List.drop_eq_getElem_cons h1,List.drop_eq_getElem_cons h2,ofB]at he1
  refine⟨ad,rfl,by omega,hlt,_,hld1,ad2,rfl,by omega,by omega,_,hpt 1 [_] rfl,fun hlo=>?_,fun hlo=>⟨?_,hk⟩⟩
  ·refine⟨ad2,rfl,by omega,by omega,_,_,_,hld2,⟨(last_ok ds[i] w1).mono ?_⟩⟩
   rintro e w2 ⟨rfl,hk2⟩
   refine⟨_,rfl,hk2,fun hhi=>⟨?_,hk.trans hk2⟩,fun hhi=>⟨ini_i64.2 (by omega),⟨i+1,by simp,by omega,hk.trans hk2,?_⟩,?_⟩⟩
   ·rw[←he1,decide_eq_false (p:=xs[i]≤ds[i].last) (by omega)];simp
   ·rw[←he1,decide_eq_true (p:=xs[i]≤ds[i].last) (by omega),decide_eq_true (p:=ds[i].lo≤xs[i]) (by omega)];simp
   ·show xs.length - ((i:Int)+1).toNat<xs.length - (i:Int).toNat
    omega
  ·rw[←he1,decide_eq_false (p:=ds[i].lo≤xs[i]) (by omega)];simp
 ·intro hge
  have hi2:i=xs.length:=by omega
  rw[hi2,List.drop_length,List.drop_eq_nil_of_le (by omega)]at he1
  exact⟨by rw[←he1];rfl,hk⟩
def fitsL:List Attr→List Vl→Bool
 |_,[]=>true
 |a::ats,v::vs=>v.fits a.type&&fitsL ats vs
 |[],_::_=>false
def cellE(ds:List Dim)(ats:List Attr)(c:Cell):Int :=
 if c.at_.length≠ds.length∨c.vals.length≠ats.length then 13 else if ofB ds c.at_=false then 3 else if fitsL ats c.vals=false then 12 else 0
theorem cell_ok{M M' M2:List Nat}{w:World}{ds:List Dim}{ats:List Attr}{c:Cell}{a b c1 c2:Option Addr}{n q m r n1 q1 n2 q2:Nat}(hd:R (tSl tDim) M w ds [.slice a n q])(ha:R (tSl tAttr) M' w ats [.slice b m r])
 (hx:R (tSl (tI .i64)) M2 w c.at_ [.slice c1 n1 q1])(hy:R (tSl tVal) M2 w c.vals [.slice c2 n2 q2]):
 Calls Tryz.prog 134 #[.slice a n q,.slice b m r,.agg #[.slice c1 n1 q1,.slice c2 n2 q2]] w (PureR (.int .i64 (cellE ds ats c)) w):=by
 obtain⟨rfl,_,_⟩:=hd.sl_len
 obtain⟨rfl,_,_⟩:=ha.sl_len
 obtain⟨rfl,_,_⟩:=hx.sl_len
 obtain⟨rfl,_,hm2⟩:=hy.sl_len
 have hmx:maxSl=140737488355328:=rfl
 refine cell_vc fun _ _=>⟨fun he=>⟨fun hne w1 hk1=>⟨?_,hk1⟩,fun he2 w1 hk1=>⟨(of_ok (hd.kp0 hk1) (hx.kp0 hk1)).mono ?_⟩⟩,fun hne w1 hk1=>⟨?_,hk1⟩⟩
 ·unfold cellE;rw[if_pos (.inr (by omega))]
 rotate_left
 ·unfold cellE;rw[if_pos (.inl (by omega))]
 rintro e w2 ⟨rfl,hk2⟩
 have hk12:=hk1.trans hk2
 have hl:c.vals.length=ats.length:=by have:=Classical.not_not.1 he2;omega
 have e0:cellE ds ats c=if ofB ds c.at_=false then 3 else if fitsL ats c.vals=false then 12 else 0:=by unfold cellE;rw[if_neg (by omega)]
 refine⟨_,rfl,hk2,fun hb=>⟨?_,hk12⟩,fun hb=>⟨fun vs w'=>∃i:Nat,vs=[.int .i64 (i:Int)]∧i≤c.vals.length∧KpL [] w w'∧fitsL (ats.drop i) (c.vals.drop i)=fitsL ats c.vals,
  fun vs _=>match vs with|[.int _ i]=>c.vals.length - i.toNat|_=>0,⟨0,rfl,by omega,hk12,rfl⟩,?_⟩⟩
 ·rw[e0,if_pos (by simpa using hb)]
 rw[if_neg (by simpa using hb)]at e0
 rintro n1 w3 ⟨i,hv,hi,hk,he1⟩
 simp only[List.cons.injEq,Value.int.injEq,true_and,and_true]at hv
 subst hv
 constructor
 ·intro hlt
  have h1:i<c.vals.length:=by omega
  have h2:i<ats.length:=by omega
  obtain⟨ad,cs,rfl,hv1,hld1,_,_⟩:=(hy.kp0 hk).sl_get h1
  obtain⟨rfl,hok1⟩:=hv1.val
  obtain⟨ad2,cs2,rfl,hv2,hld2,_,_,hpt⟩:=(ha.kp0 hk).sl_get2 h2
  obtain⟨rfl,hok2⟩:=hv2.attr
  rw[List.drop_eq_getElem_cons h1,List.drop_eq_getElem_cons h2,fitsL]at he1
  refine⟨ad,rfl,by omega,hlt,_,_,_,_,hld1,fun _ _=>⟨ad2,rfl,by omega,by omega,_,hpt 1 [_] rfl,fun w4 hk4=>⟨(fits_ok c.vals[i] ats[i].type w4).mono ?_⟩⟩⟩
  rintro e w5 ⟨rfl,hk5⟩
  have hk45:=(hk.trans hk4).trans hk5
  refine⟨_,rfl,hk5,fun hf=>⟨?_,hk45⟩,fun hf=>⟨ini_i64.2 (by omega),⟨i+1,by simp,by omega,hk45,?_⟩,?_⟩⟩
  ·rw[e0,←he1,show c.vals[i].fits ats[i].type=false from by simpa using hf];rfl
  ·rw[←he1,show c.vals[i].fits ats[i].type=true from by simpa using hf];simp
  ·show c.vals.length - ((i:Int)+1).toNat<c.vals.length - (i:Int).toNat
   omega
 ·intro hge
  have hi2:i=c.vals.length:=by omega
  rw[hi2,List.drop_length]at he1
  exact⟨by rw[e0,←he1];simp[fitsL],hk⟩
theorem copied_ok{M M2:List Nat}{w:World}{c:Cell}{c1 c2:Option Addr}{n1 q1 n2 q2:Nat}(hM:∀b∈M,b<w.heap.size)
 (hx:R (tSl (tI .i64)) M2 w c.at_ [.slice c1 n1 q1])(hy:R (tSl tVal) M2 w c.vals [.slice c2 n2 q2])(h1:c.at_.length≤1099511627776)(h2:c.vals.length≤1099511627776):
 Calls Tryz.prog 166 #[.agg #[.slice c1 n1 q1,.slice c2 n2 q2]] w fun e w'=>∃a1 n1 k1 a2 n2 k2,e=.returned (.agg #[.slice a1 n1 k1,.slice a2 n2 k2])∧KpL [] w w'∧R tCell M w' c [.slice a1 n1 k1,.slice a2 n2 k2]:=by
 obtain⟨rfl,_,_⟩:=hx.sl_len
 obtain⟨rfl,_,hm2⟩:=hy.sl_len
 have hmx:maxSl=140737488355328:=rfl
 refine copied_vc fun k1 hk1 k2 hk2 w1 hw1 hkn=>?_
 have hMk:∀b∈k2::M,b<w1.heap.size:=by
  intro b hb
  rcases List.mem_cons.1 hb with rfl|hb
  ·exact block_lt hkn.1
  ·exact Nat.lt_of_lt_of_le (hM b hb) hw1.size
 refine⟨(clone68_ok (M:=k2::M) hMk (by omega) (hx.kp0 hw1)).mono ?_⟩
 rintro e w2 ⟨a1,n1,q1,rfl,hC1⟩
 refine⟨_,_,_,rfl,hC1.kpn,fun _=>?_⟩
 have hw2:=hw1.trans hC1.kpn
 refine⟨(clone77_ok (M:=k2::M) (fun b hb=>Nat.lt_of_lt_of_le (hMk b hb) hC1.kpn.size) (by omega) (hy.kp0 hw2)).mono ?_⟩
 rintro e w3 ⟨a2,n2,q2,rfl,hC2⟩
 refine⟨_,_,_,rfl,hC2.kpn,fun w4 hw4 _=>⟨_,_,_,_,_,_,rfl,?_,?_⟩⟩
 ·exact(hw2.trans hC2.kpn).more hw4 (by intro x hx;simp at hx;subst hx;exact .inr hk2)
 ·have e1:=hC1.acc.len
  have e2:=hC2.acc.len
  have g1:=((hC1.acc.kp0 hC2.kpn).done (by omega)).kp hw4 (by simp)
  have g2:=(hC2.acc.done (by omega)).kp hw4 (by simp)
  exact R.mkCell (g1.weak fun b hb=>by simp[hb]) (g2.weak fun b hb=>by simp[hb])
theorem formed_ok{w:World}{c1 c2:Option Addr}{n q1 q2:Nat}(h1:0<n)(h4:n≤4):Calls Tryz.prog 154 #[.agg #[.slice c1 n q1,.slice c2 n q2]] w (PureR (.bool true) w):=by
 refine formed_vc fun _ _=>⟨fun _=>⟨fun _ w1 hk1=>⟨by rw[decide_eq_true (by omega)],hk1⟩,fun hn=>by omega⟩,fun hn=>absurd rfl hn⟩
theorem upTo_ok(x y:Int)(w:World):Calls Tryz.prog 155 #[.int .i64 x,.int .i64 y] w (PureR (.bool (decide (x≤y) || decide (1073741825≤y))) w):=by
 refine upTo_vc ⟨fun h=>⟨?_,KpL.refl _ _⟩,fun h=>⟨?_,KpL.refl _ _⟩⟩
 ·rw[decide_eq_false (p:=x≤y) h];rfl
 ·rw[decide_eq_true (p:=x≤y) h];rfl
def hasB:List Int→List Int→List Int→Bool
 |[],[],[]=>true
 |l::ls,h::hs,x::xs=>decide (l≤x)&&((decide (x≤h) || decide (1073741825≤h))&&hasB ls hs xs)
 |_,_,_=>false
theorem has_ok{M M' M2:List Nat}{w:World}{lo hi xs:List Int}{a b c:Option Addr}{n q m r k t:Nat}(hl:R (tSl (tI .i64)) M w lo [.slice a n q])(hh:R (tSl (tI .i64)) M' w hi [.slice b m r])(hx:R (tSl (tI .i64)) M2 w xs [.slice c k t])
 (h1:lo.length=hi.length)(h2:0<lo.length)(h3:lo.length≤4)(h4:xs.length=lo.length):Calls Tryz.prog 105 #[.agg #[.slice a n q,.slice b m r],.slice c k t] w (PureR (.bool (hasB lo hi xs)) w):=by
 obtain⟨rfl,_,_⟩:=hl.sl_len
 obtain⟨rfl,_,_⟩:=hh.sl_len
 obtain⟨rfl,_,hm2⟩:=hx.sl_len
 have hmx:maxSl=140737488355328:=rfl
 refine has_vc fun _ _ w1 hk1=>⟨(by rw[←h1];exact formed_ok h2 h3:Calls Tryz.prog 154 #[.agg #[.slice a lo.length q,.slice b hi.length r]] w1 (PureR (.bool true) w1)).mono ?_⟩
 rintro e w2 ⟨rfl,hk2⟩
 refine⟨_,rfl,hk2,fun _=>⟨fun hc=>by omega,fun _=>⟨fun vs w'=>∃i:Nat,vs=[.int .i64 (i:Int)]∧i≤xs.length∧KpL [] w w'∧hasB (lo.drop i) (hi.drop i) (xs.drop i)=hasB lo hi xs,
  fun vs _=>match vs with|[.int _ i]=>xs.length - i.toNat|_=>0,⟨0,rfl,by omega,hk1.trans hk2,rfl⟩,?_⟩⟩,fun hc=>by simp at hc⟩
 rintro n1 w3 ⟨i,hv,hi',hk,he1⟩
 simp only[List.cons.injEq,Value.int.injEq,true_and,and_true]at hv
 subst hv
 constructor
 ·intro hlt
  have g1:i<xs.length:=by omega
  have g2:i<lo.length:=by omega
  have g3:i<hi.length:=by omega
  obtain⟨ad,cs,rfl,hv1,hld1,_,_⟩:=(hx.kp0 hk).sl_get g1
  obtain⟨rfl,hok1⟩:=hv1.intD
  obtain⟨ad2,cs2,rfl,hv2,hld2,_,_⟩:=(hl.kp0 hk).sl_get g2
  obtain⟨rfl,hok2⟩:=hv2.intD
  obtain⟨ad3,cs3,rfl,hv3,hld3,_,_⟩:=(hh.kp0 hk).sl_get g3
  obtain⟨rfl,hok3⟩:=hv3.intD
  rw[List.drop_eq_getElem_cons g1,List.drop_eq_getElem_cons g2,List.drop_eq_getElem_cons g3,hasB]at he1
  refine⟨ad,rfl,by omega,hlt,_,hld1,ad2,rfl,by omega,by omega,_,hld2,fun hlo=>⟨ad3,rfl,by omega,by omega,_,hld3,⟨(upTo_ok _ _ w3).mono ?_⟩⟩,fun hlo=>⟨?_,hk⟩⟩
  ·rintro e w4 ⟨rfl,hk4⟩
   refine⟨_,rfl,hk4,fun hb=>⟨?_,hk.trans hk4⟩,fun hb=>⟨ini_i64.2 (by omega),⟨i+1,by simp,by omega,hk.trans hk4,?_⟩,?_⟩⟩
   ·rw[←he1,show(decide (xs[i]≤hi[i]) || decide (1073741825≤hi[i]))=false from nb_t hb];simp
   ·rw[←he1,show(decide (xs[i]≤hi[i]) || decide (1073741825≤hi[i]))=true from nb_f hb,decide_eq_true (p:=lo[i]≤xs[i]) (by omega)];simp
   ·show xs.length - ((i:Int)+1).toNat<xs.length - (i:Int).toNat
    omega
  ·rw[←he1,decide_eq_false (p:=lo[i]≤xs[i]) (by omega)];simp
 ·intro hge
  have hi2:i=xs.length:=by omega
  rw[hi2,List.drop_length,List.drop_eq_nil_of_le (by omega),List.drop_eq_nil_of_le (by omega)]at he1
  exact⟨by rw[←he1];rfl,hk⟩
end Go.Vc
namespace Go.Vc
open Go
variable {κ β:Type} {P:Program}
def valOfC:List Value→Value
 |[v]=>v
 |cs=>.agg cs.toArray
structure KeyT [DecidableEq κ] (P:Program) (kt:TypeId) (enc:κ→Value):Prop where
 inj:∀a b,enc a=enc b→a=b
 chk:∀b w k,(Instr.checkKey b 10000 kt (enc k)).run P w=.ok () w
 same:∀k,Instr.sameBits 10000 (enc k) (enc k)=true
 find:∀w k (es:List MapEntry) (ks:List κ),es.map (·.key)=ks.map enc→(Instr.findKey kt (enc k) es).run P w=.ok ((ks.idxOf? k).bind fun i=>(es[i]?).map fun e=>(i,e.val)) w
structure MapIn (enc:κ→Value) (t:Ty β) (M:List Nat) (w:World) (m:Nat) (l:List (κ×β)) (arr:Array MapEntry) (clock:Nat):Prop where
 blk:w.heap[m]?=some (.map arr clock)
 keys:arr.toList.map (·.key)=l.map fun p=>enc p.1
 vals:∀(i:Nat) (e:MapEntry) (p:κ×β),arr[i]?=some e→l[i]?=some p→∃cs,R t (m::M) w p.2 cs∧e.val=valOfC cs
 born:(arr.toList.map (·.born)).Nodup
 old:∀e∈arr.toList,e.born<clock
 nd:(l.map (·.1)).Nodup
 mM:m∉M
def MapAt(enc:κ→Value)(t:Ty β)(M:List Nat)(w:World)(m:Nat)(l:List (κ×β)):Prop:=∃arr clock,MapIn enc t M w m l arr clock
theorem MapAt.lt{enc:κ→Value}{t:Ty β}{M:List Nat}{w:World}{m:Nat}{l:List (κ×β)}(h:MapAt enc t M w m l):m<w.heap.size:=by
 obtain⟨arr,clock,h⟩:=h
 exact block_lt h.blk
theorem MapAt.mM{enc:κ→Value}{t:Ty β}{M:List Nat}{w:World}{m:Nat}{l:List (κ×β)}(h:MapAt enc t M w m l):m∉M:=by
 obtain⟨arr,clock,h⟩:=h
 exact h.mM
theorem MapAt.nd{enc:κ→Value}{t:Ty β}{M:List Nat}{w:World}{m:Nat}{l:List (κ×β)}(h:MapAt enc t M w m l):(l.map (·.1)).Nodup:=by
 obtain⟨arr,clock,h⟩:=h
 exact h.nd
theorem MapAt.step{enc:κ→Value}{t:Ty β}{M M' N:List Nat}{w w':World}{m:Nat}{l:List (κ×β)}(h:MapAt enc t M w m l)(kp:KpL N w w')(hs:∀b∈N,b∈M)(hn:∀b∈M',b∈M∨w.heap.size≤b):MapAt enc t M' w' m l:=by
 obtain⟨arr,clock,h⟩:=h
 have hlt:=block_lt h.blk
 refine⟨arr,clock,(kp.blk m hlt fun hm=>h.mM (hs m hm)).trans h.blk,h.keys,fun i e p he hp=>?_,h.born,h.old,h.nd,fun hm=>(hn m hm).elim h.mM (fun hge=>by omega)⟩
 obtain⟨cs,h1,h2⟩:=h.vals i e p he hp
 refine⟨cs,t.mono h1 fun b hb=>⟨⟨Nat.lt_of_lt_of_le hb.1 kp.size,fun hm=>?_⟩,kp.blk b hb.1 fun hm=>hb.2 (List.mem_cons_of_mem _ (hs b hm))⟩,h2⟩
 rcases List.mem_cons.1 hm with rfl|hm
 ·exact hb.2 (by simp)
 ·rcases hn b hm with hm|hm
  ·exact hb.2 (List.mem_cons_of_mem _ hm)
  ·have:=hb.1;omega
theorem MapAt.kp0{enc:κ→Value}{t:Ty β}{M:List Nat}{w w':World}{m:Nat}{l:List (κ×β)}(h:MapAt enc t M w m l)(kp:KpL [] w w'):MapAt enc t M w' m l:=h.step kp (by simp) fun _ hb=>.inl hb
def getM [DecidableEq κ](l:List (κ×β))(k:κ):Option β:=(l.find? fun p=>decide (p.1=k)).map (·.2)
def putM [DecidableEq κ](l:List (κ×β))(k:κ)(v:β):List (κ×β):=if (l.any fun p=>decide (p.1=k))=true then l.map fun p=>if p.1=k then (k,v) else p else l++[(k,v)]
theorem idxOf_get [DecidableEq κ]:∀(l:List (κ×β)) (k:κ),((l.map (·.1)).idxOf? k).bind (fun i=>l[i]?)=l.find? fun p=>decide (p.1=k)
 |[],k=>by simp
 |p::r,k=>by
  rw[List.map_cons,List.idxOf?_cons,List.find?_cons]
  by_cases h:p.1=k
  ·simp[h]
  ·have:=idxOf_get r k
   simp only[h,beq_iff_eq,if_false,decide_false]
   rw[←this]
   cases (r.map (·.1)).idxOf? k<;>simp
section
variable [DecidableEq κ] {kt vt mt:TypeId} {enc:κ→Value} {t:Ty β} {M:List Nat} {w:World} {m:Nat} {l:List (κ×β)}
theorem MapIn.found{arr:Array MapEntry}{clock:Nat}(hK:KeyT P kt enc)(h:MapIn enc t M w m l arr clock)(k:κ):
 (Instr.findKey kt (enc k) arr.toList).run P w=.ok (((l.map (·.1)).idxOf? k).bind fun i=>(arr[i]?).map fun e=>(i,e.val)) w:=by
 rw[hK.find w k arr.toList (l.map (·.1)) (by rw[h.keys,List.map_map];rfl)]
 simp
theorem MapIn.len{arr:Array MapEntry}{clock:Nat}(h:MapIn enc t M w m l arr clock):arr.size=l.length:=by
 have:=congrArg List.length h.keys
 simpa using this
theorem ev_lookup(hK:KeyT P kt enc)(hu:P.underlying mt=some (.map kt vt)){z:Value}(hz:∀w,(zeroValue vt).run P w=.ok z w)(h:MapAt enc t M w m l)(k:κ)(ok:Bool){Q:Value→World→Prop}
 (h1:∀x cs,getM l k=some x→R t (m::M) w x cs→Q (if ok then .tuple #[valOfC cs,.bool true] else valOfC cs) w)(h2:getM l k=none→Q (if ok then .tuple #[z,.bool false] else z) w):
 Ev P (Instr.lookup mt (.map (some m)) (enc k) ok) w Q:=by
 obtain⟨arr,clock,h⟩:=h
 have hf:=h.found hK k
 cases hi:(l.map (·.1)).idxOf? k with
 |none =>
  have hg:getM l k=none:=by
   unfold getM
   rw[←idxOf_get,hi]
   rfl
  rw[hi,Option.bind_none]at hf
  refine⟨_,w,?_,h2 hg⟩
  simp only[Instr.lookup,Sem.run_bind,run_underlying hu,Result.andThen_ok,getObj,Sem.run,h.blk,Sem.run_pure,hK.chk,hf,hz]
 |some i =>
  have hlt:i<l.length:=by
   obtain⟨h1,_⟩:=List.idxOf?_eq_some_iff.1 hi
   simpa using h1
  have hla:i<arr.size:=by rw[h.len];exact hlt
  have ha:arr[i]?=some arr[i]:=Array.getElem?_eq_getElem hla
  have hp:l[i]?=some l[i]:=List.getElem?_eq_getElem hlt
  obtain⟨cs,hR,hv⟩:=h.vals i _ _ ha hp
  have hg:getM l k=some l[i].2:=by
   unfold getM
   rw[←idxOf_get,hi,Option.bind_some,hp]
   rfl
  rw[hi,Option.bind_some,ha,Option.map_some]at hf
  refine⟨_,w,?_,h1 _ cs hg hR⟩
  simp only[Instr.lookup,Sem.run_bind,run_underlying hu,Result.andThen_ok,getObj,Sem.run,h.blk,Sem.run_pure,hK.chk,hf,hv]
theorem ev_mapUpdate(hK:KeyT P kt enc)(hu:P.underlying mt=some (.map kt vt))(h:MapAt enc t M w m l)(k:κ){v:β}{cs:List Value}(hv:R t (m::M) w v cs){Q:Value→World→Prop}
 (hq:∀w',MapAt enc t M w' m (putM l k v)→KpL [m] w w'→Q undef w'):Ev P (do Instr.mapUpdate mt (.map (some m)) (enc k) (valOfC cs);pure undef) w Q:=by
 obtain⟨arr,clock,h⟩:=h
 have hf:=h.found hK k
 have hm:=block_lt h.blk
 have hset:∀o,KpL [m] w { w with heap:=w.heap.setIfInBounds m o }:=fun o=>⟨rfl,rfl,rfl,Nat.le_refl _,by simp,fun b hb hn=>by
  simp only[List.mem_singleton]at hn
  simp[Array.getElem?_setIfInBounds,Ne.symm hn]⟩
 have hkeep:∀o {x:β} {cs:List Value},R t (m::M) w x cs→R t (m::M) { w with heap:=w.heap.setIfInBounds m o } x cs:=fun o _ _ hR=>hR.kp (hset o) (by simp)
 cases hi:(l.map (·.1)).idxOf? k with
 |none =>
  have hni:k∉l.map (·.1):=List.idxOf?_eq_none_iff.1 hi
  have hany:(l.any fun p=>decide (p.1=k))=false:=by
   rw[List.any_eq_false]
   intro p hp hc
   simp at hc
   exact hni (by rw[←hc];exact List.mem_map_of_mem hp)
  rw[hi,Option.bind_none]at hf
  refine⟨_,{ w with heap:=w.heap.setIfInBounds m (.map (arr.push { key:=enc k,val:=valOfC cs,born:=clock }) (clock+1)) },?_,hq _ ⟨arr.push { key:=enc k,val:=valOfC cs,born:=clock },clock+1,?_,?_,?_,?_,?_,?_,h.mM⟩ (hset _)⟩
  ·simp only[Instr.mapUpdate,Sem.run_bind,run_underlying hu,Result.andThen_ok,getObj,setObj,Sem.run,h.blk,Sem.run_pure,hK.chk,hf]
  ·simp[hm]
  ·unfold putM
   rw[if_neg (by simp[hany])]
   simp[h.keys]
  ·intro i e p he hp
   unfold putM at hp
   rw[if_neg (by simp[hany])]at hp
   by_cases hil:i<arr.size
   ·rw[Array.getElem?_push_lt hil,←Array.getElem?_eq_getElem hil]at he
    rw[List.getElem?_append_left (by rw[←h.len];exact hil)]at hp
    obtain⟨cs',h3,h4⟩:=h.vals i e p he hp
    exact⟨cs',hkeep _ h3,h4⟩
   ·have hile:i=arr.size:=by
     have:=(Array.getElem?_eq_some_iff.1 he).1
     simp at this
     omega
    subst hile
    simp at he
    rw[h.len]at hp
    simp at hp
    subst he hp
    exact⟨cs,hkeep _ hv,rfl⟩
  ·simp only[Array.toList_push,List.map_append,List.map_cons,List.map_nil]
   rw[List.nodup_append]
   refine⟨h.born,by simp,fun a ha b hb=>?_⟩
   simp at hb
   subst hb
   simp only[List.mem_map]at ha
   obtain⟨e,he,rfl⟩:=ha
   have:=h.old e he
   omega
  ·intro e he
   simp only[Array.toList_push,List.mem_append,List.mem_singleton]at he
   rcases he with he|rfl
   ·have:=h.old e he;omega
   ·exact Nat.lt_succ_self _
  ·unfold putM
   rw[if_neg (by simp[hany])]
   simp only[List.map_append,List.map_cons,List.map_nil]
   rw[List.nodup_append]
   refine⟨h.nd,by simp,fun a ha b hb=>?_⟩
   simp at hb
   subst hb
   rintro rfl
   exact hni ha
 |some i =>
  have hlt:i<l.length:=by
   obtain⟨h1,_⟩:=List.idxOf?_eq_some_iff.1 hi
   simpa using h1
  have hki:l[i].1=k:=by
   obtain⟨_,h2,_⟩:=List.idxOf?_eq_some_iff.1 hi
   simpa using h2
  have hla:i<arr.size:=by rw[h.len];exact hlt
  have ha:arr[i]?=some arr[i]:=Array.getElem?_eq_getElem hla
  have hkey:arr[i].key=enc k:=by
   have:=congrArg (fun x=>x[i]?) h.keys
   simp[hla,hlt,hki]at this
   exact this
  have hany:(l.any fun p=>decide (p.1=k))=true:=by
   rw[List.any_eq_true]
   exact⟨l[i],List.getElem_mem hlt,by simp[hki]⟩
  have hput:putM l k v=l.map fun p=>if p.1=k then (k,v) else p:=by unfold putM;rw[if_pos hany]
  have hother:∀j,j<l.length→j≠i→∀hj:j<l.length,l[j].1≠k:=by
   intro j _ hne hj he
   apply hne
   have hp:=List.pairwise_iff_getElem.1 h.nd
   rcases Nat.lt_trichotomy j i with hlt'|heq|hgt
   ·have:=hp j i (by simpa using hj) (by simpa using hlt) hlt'
    rw[List.getElem_map,List.getElem_map,he,hki]at this
    exact absurd rfl this
   ·exact heq
   ·have:=hp i j (by simpa using hlt) (by simpa using hj) hgt
    rw[List.getElem_map,List.getElem_map,he,hki]at this
    exact absurd rfl this
  rw[hi,Option.bind_some,ha,Option.map_some]at hf
  refine⟨_,{ w with heap:=w.heap.setIfInBounds m (.map (arr.modify i fun e=>{ e with key:=enc k,val:=valOfC cs }) clock) },?_,hq _ ⟨arr.modify i fun e=>{ e with key:=enc k,val:=valOfC cs },clock,?_,?_,?_,?_,?_,?_,h.mM⟩ (hset _)⟩
  ·simp only[Instr.mapUpdate,Sem.run_bind,run_underlying hu,Result.andThen_ok,getObj,setObj,Sem.run,h.blk,Sem.run_pure,hK.chk,hf,ha,Option.map_some,Option.getD_some,hkey,Instr.keyThatStays,hK.same,if_true]
  ·simp[hm]
  ·rw[hput,List.map_map]
   apply List.ext_getElem?
   intro j
   have hkj:=congrArg (fun x=>x[j]?) h.keys
   simp only[List.getElem?_map,Array.getElem?_toList,Array.getElem?_modify]at hkj ⊢
   by_cases hji:i=j
   ·subst hji
    simp[ha,hlt,hki]
   ·rw[if_neg hji]
    rw[hkj]
    by_cases hj:j<l.length
    ·simp[hj,hother j hj (Ne.symm hji) hj]
    ·simp[hj]
  ·intro j e p he hp
   rw[hput]at hp
   rw[Array.getElem?_modify]at he
   by_cases hji:i=j
   ·subst hji
    simp[ha]at he
    simp[hlt,hki]at hp
    subst he hp
    exact⟨cs,hkeep _ hv,rfl⟩
   ·rw[if_neg hji]at he
    obtain⟨hj,hpe⟩:=List.getElem?_eq_some_iff.1 hp
    simp only[List.length_map]at hj
    simp[hother j hj (Ne.symm hji) hj]at hpe
    obtain⟨cs',h3,h4⟩:=h.vals j e p he (by rw[←hpe];simp[hj])
    exact⟨cs',hkeep _ h3,h4⟩
  ·have:(arr.modify i fun e=>{ e with key:=enc k,val:=valOfC cs }).toList.map (·.born)=arr.toList.map (·.born):=by
    apply List.ext_getElem?
    intro j
    simp only[List.getElem?_map,Array.getElem?_toList,Array.getElem?_modify]
    split
    ·cases arr[j]?<;>rfl
    ·rfl
   rw[this]
   exact h.born
  ·intro e he
   obtain⟨j,hj,rfl⟩:=List.getElem_of_mem he
   simp only[Array.length_toList,Array.size_modify]at hj
   simp only[Array.getElem_toList,Array.getElem_modify]
   have:=h.old arr[j] (by simp)
   split<;>exact this
  ·have:(putM l k v).map (·.1)=l.map (·.1):=by
    rw[hput,List.map_map]
    apply List.map_congr_left
    intro p _
    by_cases hp:p.1=k<;>simp[hp]
   rw[this]
   exact h.nd
theorem ev_makeMap{M:List Nat}{w:World}(hM:∀b∈M,b<w.heap.size){mt:TypeId}{Q:Value→World→Prop}
 (hq:∀w',MapAt enc t M w' w.heap.size []→KpL [] w w'→Q (.map (some w.heap.size)) w'):Ev P (Instr.makeMap mt none) w Q:=by
 refine⟨_,w.alloc (.map #[] 0),rfl,hq _ ⟨#[],0,?_,rfl,fun i e p he=>by simp at he,by simp,by simp,by simp,fun hm=>by have:=hM _ hm;omega⟩ ((KpL.refl _ _).alloc _)⟩
 show(w.heap.push _)[w.heap.size]?=_
 simp
end
end Go.Vc
namespace Go.Vc
open Go Go.Proofs
theorem idxOf?_cons'{κ:Type}[DecidableEq κ](a k:κ)(r:List κ):(a::r).idxOf? k=if a=k then some 0 else (r.idxOf? k).map (· + 1):=by
 rw[List.idxOf?_cons]
 by_cases h:a=k<;>simp[h]
theorem findNow_leaf{κ:Type}[DecidableEq κ]{enc:κ→Value}{d:TypeDesc}(hs:∀a b,Instr.sameNow d (enc a) (enc b)=some (decide (a=b)))(k:κ):∀(es:List MapEntry) (ks:List κ) (i:Nat),es.map (·.key)=ks.map enc→
 Instr.findNow d (enc k) es i=some ((ks.idxOf? k).bind fun j=>(es[j]?).map fun e=>(i+j,e.val))
 |[],[],i,_=>by simp[Instr.findNow]
 |[],_::_,i,h=>by simp at h
 |_::_,[],i,h=>by simp at h
 |e::es,a::ks,i,h=>by
  simp only[List.map_cons,List.cons.injEq]at h
  rw[Instr.findNow,h.1,hs,idxOf?_cons']
  by_cases hk:a=k
  ·subst hk
   simp
  ·have hk':¬k=a:=fun e=>hk e.symm
   simp only[hk,hk',decide_false,if_false]
   rw[findNow_leaf hs k es ks (i+1) h.2]
   congr 1
   cases ks.idxOf? k with
   |none=>rfl
   |some j =>
    simp only[Option.map_some,Option.bind_some,List.getElem?_cons_succ]
    cases es[j]? with
    |none=>rfl
    |some e=>simp only[Option.map_some];congr 2;omega
theorem findAsk{κ:Type}[DecidableEq κ]{P:Program}{enc:κ→Value}{kt:TypeId}(hs:∀a b w,(Op.equal kt (enc a) (enc b)).run P w=.ok (decide (a=b)) w)(k:κ)(w:World):∀(es:List MapEntry) (ks:List κ) (i:Nat),es.map (·.key)=ks.map enc→
 (Instr.findAsking kt (enc k) es i).run P w=.ok ((ks.idxOf? k).bind fun j=>(es[j]?).map fun e=>(i+j,e.val)) w
 |[],[],i,_=>by simp[Instr.findAsking]
 |[],_::_,i,h=>by simp at h
 |_::_,[],i,h=>by simp at h
 |e::es,a::ks,i,h=>by
  simp only[List.map_cons,List.cons.injEq]at h
  simp only[Instr.findAsking,Sem.run_bind,h.1,hs,Result.andThen_ok,idxOf?_cons']
  by_cases hk:a=k
  ·subst hk
   simp
  ·have hk':¬k=a:=fun e=>hk e.symm
   simp only[hk,hk',decide_false,Bool.false_eq_true,if_false]
   rw[findAsk hs k w es ks (i+1) h.2]
   congr 1
   cases ks.idxOf? k with
   |none=>rfl
   |some j =>
    simp only[Option.map_some,Option.bind_some,List.getElem?_cons_succ]
    cases es[j]? with
    |none=>rfl
    |some e=>simp only[Option.map_some];congr 2;omega
theorem keyStr:KeyT Tryz.prog 9 Value.string:=by
 refine⟨fun a b h=>by injection h,fun b w k=>?_,fun k=>?_,fun w k es ks h=>?_⟩
 ·rw[Instr.checkKey]
  simp only[Sem.run_bind,run_underlying u9,Result.andThen_ok]
  rfl
 ·simp only[Instr.sameBits]
  exact(baq k k).2 rfl
 ·have hs:∀a b:ByteArray,Instr.sameNow .string (Value.string a) (Value.string b)=some (decide (a=b)):=by
   intro a b
   simp only[Instr.sameNow]
   congr 1
   rw[Bool.eq_iff_iff,baq,decide_eq_true_eq]
  simp only[Instr.findKey,Sem.run_bind,run_underlying u9,Result.andThen_ok,findNow_leaf hs k es ks 0 h]
  simp
structure Pl where
 a:Int
 p0:Int
 p1:Int
 p2:Int
 p3:Int
deriving DecidableEq
def Pl.cells(p:Pl):List Value:=[.int .i64 p.a,.int .i64 p.p0,.int .i64 p.p1,.int .i64 p.p2,.int .i64 p.p3]
def Pl.enc(p:Pl):Value:=.agg p.cells.toArray
theorem u141':Tryz.prog.underlying 141=some (.array 4 3):=by kernel_rfl
theorem s3(w:World):(sizeOf 3).run Tryz.prog w=.ok 1 w:=by
 obtain⟨i,hi,he⟩:=Option.map_eq_some_iff.1 (show(Tryz.prog.info? 3).map (·.size)=some 1 by kernel_rfl)
 simp[sizeOf,run_typeInfo hi,he]
theorem s141(w:World):(sizeOf 141).run Tryz.prog w=.ok 4 w:=by
 obtain⟨i,hi,he⟩:=Option.map_eq_some_iff.1 (show(Tryz.prog.info? 141).map (·.size)=some 4 by kernel_rfl)
 simp[sizeOf,run_typeInfo hi,he]
theorem p141(cs:Array Value)(o:Nat)(w:World):(part 141 cs o).run Tryz.prog w=.ok (.agg (cs.extract o (o+4))) w:=by
 have h1:(isAgg 141).run Tryz.prog w=.ok true w:=by
  simp only[isAgg,Sem.run_bind,run_underlying u141',Result.andThen_ok]
  rfl
 simp[part,h1,s141]
theorem eq143(p q:Pl)(w:World):(Op.equal 143 p.enc q.enc).run Tryz.prog w=.ok (decide (p=q)) w:=by
 have hs:Tryz.prog.stoodInHeld 143=false:=by kernel_rfl
 obtain⟨a,b,c,d,e⟩:=p
 obtain⟨a',b',c',d',e'⟩:=q
 have h141:∀n,(Op.equalIn (n+2) 141 (.agg #[.int .i64 b,.int .i64 c,.int .i64 d,.int .i64 e]) (.agg #[.int .i64 b',.int .i64 c',.int .i64 d',.int .i64 e'])).run Tryz.prog w=.ok (decide (b=b'∧c=c'∧d=d'∧e=e')) w:=by
  intro n
  rw[Op.equalIn]
  simp only[Sem.run_bind,run_underlying u141',Result.andThen_ok,s3]
  simp[p3,equal_int u3,Std.Legacy.Range.forIn_eq_forIn_range',List.range'_succ]
  by_cases h1:b=b'<;>by_cases h2:c=c'<;>by_cases h3:d=d'<;>by_cases h4:e=e'<;>simp[h1,h2,h3,h4]
 unfold Op.equal Op.maxDepth Pl.enc Pl.cells
 rw[Op.equalIn]
 simp only[Sem.run_bind,run_underlying u143,Result.andThen_ok,run_program,hs,Bool.false_eq_true,if_false]
 simp[p3,p141,equal_int u3,h141]
 by_cases h0:a=a'<;>by_cases h1:b=b'<;>by_cases h2:c=c'<;>by_cases h3:d=d'<;>by_cases h4:e=e'<;>simp[h0,h1,h2,h3,h4]
theorem keyPl:KeyT Tryz.prog 143 Pl.enc:=by
 refine⟨fun a b h=>?_,fun b w k=>?_,fun k=>?_,fun w k es ks h=>?_⟩
 ·obtain⟨a0,a1,a2,a3,a4⟩:=a
  obtain⟨b0,b1,b2,b3,b4⟩:=b
  simp[Pl.enc,Pl.cells]at h
  simp[h]
 ·have c3:∀n x w,(Instr.checkKey b (n+1) 3 (.int .i64 x)).run Tryz.prog w=.ok () w:=by
   intro n x w
   rw[Instr.checkKey]
   simp only[Sem.run_bind,run_underlying u3,Result.andThen_ok]
   rfl
  have c141:∀n (cs:Array Value) w,(∀i:Nat,i<4→∃x,cs[i]?=some (.int .i64 x))→(Instr.checkKey b (n+2) 141 (.agg cs)).run Tryz.prog w=.ok () w:=by
   intro n cs w hcs
   obtain⟨x0,h0⟩:=hcs 0 (by omega)
   obtain⟨x1,h1⟩:=hcs 1 (by omega)
   obtain⟨x2,h2⟩:=hcs 2 (by omega)
   obtain⟨x3,h3⟩:=hcs 3 (by omega)
   rw[Instr.checkKey]
   simp only[Sem.run_bind,run_underlying u141',Result.andThen_ok]
   simp[Std.Legacy.Range.forIn_eq_forIn_range',List.range'_succ,s3,p3,h0,h1,h2,h3,c3]
  rw[Instr.checkKey]
  unfold Pl.enc Pl.cells
  simp only[Sem.run_bind,run_underlying u143,Result.andThen_ok]
  simp[p3,p141,c3]
  have:=c141 9997 #[.int .i64 k.p0,.int .i64 k.p1,.int .i64 k.p2,.int .i64 k.p3] w fun i hi=>by
   match i,hi with
   |0,_=>exact⟨_,rfl⟩
   |1,_=>exact⟨_,rfl⟩
   |2,_=>exact⟨_,rfl⟩
   |3,_=>exact⟨_,rfl⟩
  simp[this]
 ·simp[Pl.enc,Pl.cells,Instr.sameBits]
 ·have hn:Instr.findNow (.struct #[⟨"array",3,0,false, "", "tesseract/ingest",0⟩,⟨"at",141,1,false, "", "tesseract/ingest",8⟩]) k.enc es 0=if es=[] then some none else none:=by
   cases es with
   |nil=>rfl
   |cons e es=>rfl
  simp only[Instr.findKey,Sem.run_bind,run_underlying u143,Result.andThen_ok,hn]
  by_cases he:es=[]
  ·subst he
   have:ks=[]:=by cases ks with|nil=>rfl|cons=>simp at h
   subst this
   simp
  ·simp only[he,if_false]
   rw[findAsk eq143 k w es ks 0 h]
   simp
end Go.Vc
namespace Go.Vc
open Go
variable {κ β:Type} {P:Program}
structure ItAt (w:World) (r m:Nat) (arr:Array MapEntry) (clock:Nat) (vis:List Nat):Prop where
 it:w.heap[r]?=some (.mapIter (some m) clock (vis.map fun i=>(arr.getD i default).born).toArray clock)
 lt:∀i∈vis,i<arr.size
 nd:vis.Nodup
theorem ItAt.keep{w w':World}{r m:Nat}{arr:Array MapEntry}{clock:Nat}{vis:List Nat}{F:List Nat}(h:ItAt w r m arr clock vis)(k:KpL F w w')(hr:r∉F):ItAt w' r m arr clock vis :=
 ⟨(k.blk r (block_lt h.it) hr).trans h.it,h.lt,h.nd⟩
theorem choose_next{w:World}{n:Nat}(hn:0<n):∃(j:Nat) (w1:World),j<n∧w1.heap=w.heap∧KpL [] w w1∧(choose (Question.mapNext n)).run P w=.ok j w1:=by
 by_cases hf:(Question.mapNext n).forced=true
 ·exact⟨0,w,hn,rfl,KpL.refl _ _,by rw[run_choose,if_pos hf]⟩
 ·refine⟨_,w.drew,?_,rfl,(KpL.refl _ _).drew,by rw[run_choose,if_neg hf];rfl⟩
  simp only[Question.cut]
  exact Nat.mod_lt _ hn
section
variable [DecidableEq κ] {enc:κ→Value} {t:Ty β} {M:List Nat} {w:World} {m r clock:Nat} {l:List (κ×β)} {arr:Array MapEntry}
theorem ev_range{xt k e:TypeId}(hu:P.underlying xt=some (.map k e))(h:MapIn enc t M w m l arr clock){Q:Value→World→Prop}
 (hq:∀w',ItAt w' w.heap.size m arr clock []→KpL [] w w'→Q (.pointer (some ⟨w.heap.size,0,none⟩)) w'):Ev P (Instr.range xt (.map (some m))) w Q :=
 ⟨_,_,run_range_map w xt k e m arr clock hu h.blk,hq _ ⟨heap_alloc_new _ _,by simp,by simp⟩ ((KpL.refl _ _).alloc _)⟩
theorem MapIn.born_inj(h:MapIn enc t M w m l arr clock){i j:Nat}(hi:i<arr.size)(hj:j<arr.size)(he:arr[i].born=arr[j].born):i=j:=by
 have hp:=List.pairwise_iff_getElem.1 h.born
 rcases Nat.lt_trichotomy i j with hlt|heq|hgt
 ·have:=hp i j (by simpa using hi) (by simpa using hj) hlt
  simp at this
  exact absurd he this
 ·exact heq
 ·have:=hp j i (by simpa using hj) (by simpa using hi) hgt
  simp at this
  exact absurd he.symm this
theorem ev_next_map{ty:Nat}(h:MapIn enc t M w m l arr clock){vis:List Nat}(hit:ItAt w r m arr clock vis){Q:Value→World→Prop}(h1:(∀i,i<l.length→i∈vis)→∀w',KpL [] w w'→w'.heap=w.heap→Q (.tuple #[.bool false]) w')
 (h2:∀i p cs w',i∉vis→l[i]?=some p→R t (m::M) w p.2 cs→ItAt w' r m arr clock (vis++[i])→KpL [r] w w'→Q (.tuple #[.bool true,enc p.1,valOfC cs]) w'):
 Ev P (Instr.next (.pointer (some ⟨r,0,none⟩)) false ty) w Q:=by
 have hseen:∀i,i<arr.size→∀(hi:i<arr.size),((vis.map fun i=>(arr.getD i default).born).toArray.contains arr[i].born=true↔i∈vis):=by
  intro i _ hi
  simp only[List.contains_toArray,List.contains_iff_mem,List.mem_map]
  constructor
  ·rintro⟨j,hj,he⟩
   have hjl:=hit.lt j hj
   rw[Array.getD_eq_getD_getElem?,Array.getElem?_eq_getElem hjl,Option.getD_some]at he
   rw[←h.born_inj hjl hi he]
   exact hj
  ·intro hv
   exact⟨i,hv,by rw[Array.getD_eq_getD_getElem?,Array.getElem?_eq_getElem hi,Option.getD_some]⟩
 have htest:(!(vis.map fun i=>(arr.getD i default).born).toArray.isEmpty && !arr.isEmpty&&arr.all (fun x=>decide (x.born≥clock)))=false:=next_test_false _ _ clock clock h.old (Nat.le_refl _)
 have hit':=hit.it
 generalize hS:(vis.map fun i=>(arr.getD i default).born).toArray=S at *
 have hleft:∀e∈(arr.filter fun e => !S.contains e.born).toList,∃i,∃hi:i<arr.size,arr[i]=e∧i∉vis:=by
  intro e he
  simp only[Array.toList_filter,List.mem_filter]at he
  obtain⟨i,hi,rfl⟩:=List.getElem_of_mem he.1
  have hi':i<arr.size:=by simpa using hi
  refine⟨i,hi',by simp,fun hv=>?_⟩
  have h3:=he.2
  simp only[Array.getElem_toList]at h3
  rw[(hseen i hi' hi').2 hv]at h3
  simp at h3
 have hold:(arr.filter fun e => !S.contains e.born).filter (fun e=>decide (e.born<clock))=(arr.filter fun e => !S.contains e.born):=by
  apply Array.filter_eq_self.2
  intro e he
  obtain⟨i,hi,rfl,_⟩:=hleft e (by simpa using he)
  simpa using h.old arr[i] (by simp)
 have hnew:(arr.filter fun e => !S.contains e.born).filter (fun e=>decide (e.born≥clock))=#[]:=by
  apply Array.filter_eq_empty_iff.2
  intro e he
  obtain⟨i,hi,rfl,_⟩:=hleft e (by simpa using he)
  have:=h.old arr[i] (by simp)
  simp
  omega
 generalize hL:(arr.filter fun e => !S.contains e.born)=L at *
 by_cases hemp:L=#[]
 ·obtain⟨j,w1,hj,hw1,hk1,hrun⟩:=choose_next (P:=P) (w:=w) (n:=1) (by omega)
  refine⟨_,w1,?_,h1 (fun i hi=>?_) w1 hk1 hw1⟩
  ·have hj0:j=0:=by omega
   subst hj0
   simp only[Instr.next,getObj,Sem.run_bind,Sem.run,hit',Result.andThen_ok,h.blk,htest,Bool.false_eq_true,if_false,hL,hold,hnew]
   have e0:((if L.isEmpty=true then #[none] else #[])++Array.map some (L++#[]))=#[none]:=by simp[hemp]
   rw[e0]
   simp only[List.size_toArray,List.length_cons,List.length_nil,Nat.zero_add,hrun,Result.andThen_ok,List.getElem?_toArray,List.getElem?_cons_zero,Sem.run_pure]
  ·have hia:i<arr.size:=by rw[h.len];exact hi
   apply Classical.byContradiction
   intro hv
   have:arr[i]∈L:=by
    rw[←hL]
    simp only[Array.mem_filter]
    refine⟨by simp,?_⟩
    have hc:=mt (hseen i hia hia).1 hv
    simpa using hc
   rw[hemp]at this
   simp at this
 ·have hpos:0<L.size:=by
   rcases Nat.eq_zero_or_pos L.size with h0|h0
   ·exact absurd (Array.eq_empty_of_size_eq_zero h0) hemp
   ·exact h0
  obtain⟨j,w1,hj,hw1,hk1,hrun⟩:=choose_next (P:=P) (w:=w) (n:=L.size) hpos
  obtain⟨i,hi,hie,hiv⟩:=hleft L[j] (by simp)
  have hil:i<l.length:=by rw[←h.len];exact hi
  obtain⟨cs,hR,hv⟩:=h.vals i _ _ (Array.getElem?_eq_getElem hi) (List.getElem?_eq_getElem hil)
  have hkey:arr[i].key=enc l[i].1:=by
   have:=congrArg (fun x=>x[i]?) h.keys
   simp[hi,hil]at this
   exact this
  have hr:=block_lt hit.it
  refine⟨_,{ w1 with heap:=w1.heap.setIfInBounds r (.mapIter (some m) clock (S.push arr[i].born) clock) },?_,h2 i l[i] cs _ hiv (List.getElem?_eq_getElem hil) hR ⟨?_,?_,?_⟩ ?_⟩
  ·have hne:L.isEmpty=false:=by simpa using hemp
   have e0:((if L.isEmpty=true then #[none] else #[])++Array.map some (L++#[]))=L.map some:=by simp[hne]
   have e1:(L.map some)[j]?=some (some arr[i]):=by simp[hj,hie]
   simp only[Instr.next,getObj,setObj,Sem.run_bind,Sem.run,hit',Result.andThen_ok,h.blk,htest,Bool.false_eq_true,if_false,hL,hold,hnew]
   rw[e0]
   have hw1r:w1.heap[r]?=_:=(congrArg (fun h=>h[r]?) hw1).trans hit'
   simp only[Array.size_map,hrun,Result.andThen_ok,e1,Sem.run_bind,Sem.run,hkey,hv,hw1r]
   rfl
  ·simp only[hw1]
   simp[hr,←hS,Array.getD_eq_getD_getElem?,hi]
  ·intro x hx
   rcases List.mem_append.1 hx with hx|hx
   ·exact hit.lt x hx
   ·simp at hx;subst hx;exact hi
  ·rw[List.nodup_append]
   refine⟨hit.nd,by simp,fun a ha b hb=>?_⟩
   simp at hb
   subst hb
   rintro rfl
   exact hiv ha
  ·refine⟨hk1.os,hk1.tape,hk1.output,hk1.drawn,by simp[hw1],fun b hb hn=>?_⟩
   simp only[List.mem_singleton]at hn
   simp[hw1,Array.getElem?_setIfInBounds,Ne.symm hn]
theorem ev_entry_map(h:MapIn enc t M w m l arr clock){vis:List Nat}{i:Nat}(hit:ItAt w r m arr clock (vis++[i])){Q:Value→World→Prop}
 (h2:∀p cs,l[i]?=some p→R t (m::M) w p.2 cs→Q (.tuple #[enc p.1,valOfC cs]) w):Ev P (Instr.entry (.pointer (some ⟨r,0,none⟩))) w Q:=by
 have hi:i<arr.size:=hit.lt i (by simp)
 have hil:i<l.length:=by rw[←h.len];exact hi
 obtain⟨cs,hR,hv⟩:=h.vals i _ _ (Array.getElem?_eq_getElem hi) (List.getElem?_eq_getElem hil)
 have hkey:arr[i].key=enc l[i].1:=by
  have:=congrArg (fun x=>x[i]?) h.keys
  simp[hi,hil]at this
  exact this
 have hf:arr.find? (·.born == arr[i].born)=some arr[i]:=by rw[←Array.find?_toList];exact find_born arr[i] arr.toList h.born (by simp)
 have hb:((vis++[i]).map fun i=>(arr.getD i default).born).toArray.back?=some arr[i].born:=by
  simp[Array.getD_eq_getD_getElem?,hi]
 refine⟨_,w,?_,h2 l[i] cs (List.getElem?_eq_getElem hil) hR⟩
 simp only[Instr.entry,getObj,Sem.run_bind,Sem.run,hit.it,Result.andThen_ok,hb,h.blk,bne_self_eq_false,Bool.false_eq_true,if_false,hf,hkey,hv]
 rfl
end
end Go.Vc
namespace Go.Vc
open Go Go.Proofs
open Go.Value Go.Ending Go.IntKind
set_option maxRecDepth 100000
theorem dims_vc{aa:Option Addr}{an ac:Nat}{m:Nat}{w:World}{R:Ending→World→Prop}
 (h :
 (¬(↑an:Int)<(1:Int)→
 ((4:Int)<(↑an:Int)→
 R (returned (int i64 13)) w)∧
 (¬(4:Int)<(↑an:Int)→
 ∃(P1:List Value→World→Prop) (P2:List Value→World→Nat),P1 [int i64 0] w∧
 ∀n1 w1,P1 [int i64 n1] w1→
 (n1<(↑an:Int)→
 ∃d1,aa=some d1∧
 0≤n1∧
 n1<(↑an:Int)∧
 ∃s1 n2 n3,LdA w1 (d1.add (n1.toNat*3)) [string s1,int i64 n2,int i64 n3]∧
 ∀k1,w1.heap.size≤k1→
 ∀w2,KpL [] w1 w2→
 CallW Tryz.prog 98 #[string s1] w2 fun e1 w3 =>
 ∃b1,e1=returned (Value.bool b1)∧
 KpL [] w2 w3∧
 ((!b1)=false→
 Ev Tryz.prog (Instr.lookup 181 (map (some m)) (string s1) false) w3 fun y1 w4 =>
 ∃b2,y1=Value.bool b2∧
 ∃l1,KpL l1 w3 w4∧
 NotIn k1 l1∧
 (b2=true→
 R (returned (int i64 11)) w4)∧
 (b2=false→
 (¬n2 < -1073741824→
 (¬1073741824<n2→
 (¬n3<n2→
 (1073741825<n3→
 R (returned (int i64 3)) w4)∧
 (¬1073741825<n3→
 Ev Tryz.prog (do
 Instr.mapUpdate 181 (map (some m)) (string s1) (Value.bool true)
 pure undef) w4 fun y2 w5 =>
 y2=tuple #[]∧
 ∃l2,KpL l2 w4 w5∧
 NotIn k1 l2∧
 InI i64 (n1+1)∧
 P1 [int i64 (n1+1)] w5∧
 P2 [int i64 (n1+1)] w5<P2 [int i64 n1] w1))∧
 (n3<n2→
 R (returned (int i64 3)) w4))∧
 (1073741824<n2→
 R (returned (int i64 3)) w4))∧
 (n2 < -1073741824→
 R (returned (int i64 3)) w4)))∧
 ((!b1)=true→
 R (returned (int i64 11)) w3))∧
 (¬n1<(↑an:Int)→
 R (returned (int i64 0)) w1)))∧
 ((↑an:Int)<(1:Int)→
 R (returned (int i64 13)) w)):Calls Tryz.prog 162 #[slice aa an ac,map (some m)] w R :=
 fnc0 (an:={ loops:=[⟨4,[17],[4,6,18,19,20,21,22,23,24,25,26,27,28,29,30,31,32,33,34,35,36,37,38,39,40,41,42,43,44,45,46,47,48,49,50,51,52,53,54],[]⟩] }) (args:=[.a (.c (.v (.slice aa an ac))),.a (.c (.v (.map (some m))))]) Tryz_ok Tryz.func162 (by kernel_rfl) rfl rfl h
theorem shape_vc{aa:Option Addr}{an ac:Nat}{w:World}{R:Ending→World→Prop}
 (h :
 Ev Tryz.prog (Instr.makeMap 181 none) w fun y1 w1 =>
 ∃m1,y1=map m1∧
 ∃l1,KpL l1 w w1∧
 CallW Tryz.prog 162 #[slice aa an ac,map m1] w1 fun e1 w2 =>
 ∃n1,e1=returned (int i64 n1)∧
 ∃l2,KpL l2 w1 w2∧
 R (returned (int i64 n1)) w2):Calls Tryz.prog 153 #[slice aa an ac] w R :=
 fnc0 (an:={ muts:=[162] }) (args:=[.a (.c (.v (.slice aa an ac)))]) Tryz_ok Tryz.func153 (by kernel_rfl) rfl rfl h
theorem schema_vc{aa:Option Addr}{an ac:Nat}{ba:Option Addr}{bn bc:Nat}{w:World}{R:Ending→World→Prop}
 (h :
 Ev Tryz.prog (Instr.makeMap 181 none) w fun y1 w1 =>
 ∃m1,y1=map m1∧
 ∃l1,KpL l1 w w1∧
 CallW Tryz.prog 162 #[slice aa an ac,map m1] w1 fun e1 w2 =>
 ∃n1,e1=returned (int i64 n1)∧
 ∃l2,KpL l2 w1 w2∧
 (n1≠0→
 R (returned (int i64 n1)) w2)∧
 (¬n1≠0→
 (¬(↑bn:Int)<(1:Int)→
 ((6:Int)<(↑bn:Int)→
 R (returned (int i64 9)) w2)∧
 (¬(6:Int)<(↑bn:Int)→
 ∃(P1:List Value→World→Prop) (P2:List Value→World→Nat),P1 [int i64 0] w2∧
 ∀n2 w3,P1 [int i64 n2] w3→
 (n2<(↑bn:Int)→
 ∃d1,ba=some d1∧
 0≤n2∧
 n2<(↑bn:Int)∧
 ∃s1 n3,LdA w3 (d1.add (n2.toNat*2)) [string s1,int i64 n3]∧
 ∀k1,w3.heap.size≤k1→
 ∀w4,KpL [] w3 w4→
 CallW Tryz.prog 98 #[string s1] w4 fun e2 w5 =>
 ∃b1,e2=returned (Value.bool b1)∧
 KpL [] w4 w5∧
 ((!b1)=false→
 Ev Tryz.prog (Instr.lookup 181 (map m1) (string s1) false) w5 fun y2 w6 =>
 ∃b2,y2=Value.bool b2∧
 ∃l3,KpL l3 w5 w6∧
 NotIn k1 l3∧
 (b2=true→
 R (returned (int i64 11)) w6)∧
 (b2=false→
 (¬n3<1→
 (4<n3→
 R (returned (int i64 12)) w6)∧
 (¬4<n3→
 Ev Tryz.prog (do
 Instr.mapUpdate 181 (map m1) (string s1) (Value.bool true)
 pure undef) w6 fun y3 w7 =>
 y3=tuple #[]∧
 ∃l4,KpL l4 w6 w7∧
 NotIn k1 l4∧
 InI i64 (n2+1)∧
 P1 [int i64 (n2+1)] w7∧
 P2 [int i64 (n2+1)] w7<P2 [int i64 n2] w3))∧
 (n3<1→
 R (returned (int i64 12)) w6)))∧
 ((!b1)=true→
 R (returned (int i64 11)) w5))∧
 (¬n2<(↑bn:Int)→
 R (returned (int i64 0)) w3)))∧
 ((↑bn:Int)<(1:Int)→
 R (returned (int i64 9)) w2))):Calls Tryz.prog 133 #[slice aa an ac,slice ba bn bc] w R :=
 fnc0 (an:={ loops:=[⟨8,[26],[4,8,27,28,29,30,31,32,33,34,35,36,37,38,39,40,41,42,43,44,45,46,47,48,49,50,51],[]⟩],muts:=[162] }) (args:=[.a (.c (.v (.slice aa an ac))),.a (.c (.v (.slice ba bn bc)))]) Tryz_ok Tryz.func133 (by kernel_rfl) rfl rfl h
theorem check_vc{cxa:Option Addr}{cxn cxc:Nat}{cya:Option Addr}{cyn cyc:Nat}{cza:Option Addr}{czn czc:Nat}{w:World}{R:Ending→World→Prop}
 (h :
 ∀k1,w.heap.size≤k1→
 ∀w1,KpL [] w w1→
 CallW Tryz.prog 133 #[slice cxa cxn cxc,slice cya cyn cyc] w1 fun e1 w2 =>
 ∃n1,e1=returned (int i64 n1)∧
 KpL [] w1 w2∧
 (n1≠0→
 R (returned (int i64 n1)) w2)∧
 (¬n1≠0→
 ((4096:Int)<(↑czn:Int)→
 R (returned (int i64 9)) w2)∧
 (¬(4096:Int)<(↑czn:Int)→
 ∃(P1:List Value→World→Prop) (P2:List Value→World→Nat),P1 [int i64 0] w2∧
 ∀n2 w3,P1 [int i64 n2] w3→
 (n2<(↑czn:Int)→
 ∃d1,cza=some d1∧
 0≤n2∧
 n2<(↑czn:Int)∧
 ∃a1 k2 k3 a2 k4 k5,LdA w3 (d1.add (n2.toNat*2)) [slice a1 k2 k3,slice a2 k4 k5]∧
 ∀k6,w3.heap.size≤k6→
 ∀w4,KpL [] w3 w4→
 CallW Tryz.prog 134 (#[slice cxa cxn cxc,slice cya cyn cyc,agg #[slice a1 k2 k3,slice a2 k4 k5]]) w4 fun e2 w5 =>
 ∃n3,e2=returned (int i64 n3)∧
 KpL [] w4 w5∧
 (n3≠0→
 R (returned (int i64 n3)) w5)∧
 (¬n3≠0→
 (n2=0→
 InI i64 (n2+1)∧
 P1 [int i64 (n2+1)] w5∧
 P2 [int i64 (n2+1)] w5<P2 [int i64 n2] w3)∧
 (¬n2=0→
 InI i64 (n2 - 1)∧
 ∃d2,cza=some d2∧
 0≤n2 - 1∧
 n2 - (1:Int)<(↑czn:Int)∧
 ∃a3 k7 k8,LdA w5 ((d2.add ((n2 - 1).toNat*2)).add 0) [slice a3 k7 k8]∧
 ∀w6,KpL [] w5 w6→
 CallW Tryz.prog 138 #[slice a3 k7 k8,slice a1 k2 k3] w6 fun e3 w7 =>
 ∃n4,e3=returned (int i64 n4)∧
 KpL [] w6 w7∧
 (n4=0→
 R (returned (int i64 5)) w7)∧
 (¬n4=0→
 (n4=1→
 R (returned (int i64 2)) w7)∧
 (¬n4=1→
 InI i64 (n2+1)∧
 P1 [int i64 (n2+1)] w7∧
 P2 [int i64 (n2+1)] w7<P2 [int i64 n2] w3)))))∧
 (¬n2<(↑czn:Int)→
 R (returned (int i64 0)) w3)))):Calls Tryz.prog 70 #[agg #[slice cxa cxn cxc,slice cya cyn cyc,slice cza czn czc]] w R :=
 fnc0 (an:={ loops:=[⟨7,[22],[2,4,5,6,23,24,25,26,27,28,29,30,31,32,33,34,35,36,37,38,39,40,41,42,43,44,45,46,47,48,49,50,51,52],[]⟩] }) (args:=[.a (.agg [.v (.slice cxa cxn cxc),.v (.slice cya cyn cyc),.v (.slice cza czn czc)])]) Tryz_ok Tryz.func70 (by kernel_rfl) rfl rfl h
theorem database_vc{aa:Option Addr}{an ac:Nat}{w:World}{R:Ending→World→Prop}
 (h :
 ((16:Int)<(↑an:Int)→
 R (returned (int i64 9)) w)∧
 (¬(16:Int)<(↑an:Int)→
 Ev Tryz.prog (Instr.makeMap 181 none) w fun y1 w1 =>
 ∃m1,y1=map m1∧
 ∃l1,KpL l1 w w1∧
 ∃(P1:List Value→World→Prop) (P2:List Value→World→Nat),P1 [int i64 0] w1∧
 ∀n1 w2,P1 [int i64 n1] w2→
 (n1<(↑an:Int)→
 ∃d1,aa=some d1∧
 0≤n1∧
 n1<(↑an:Int)∧
 ∃s1 a1 k1 k2 a2 k3 k4 a3 k5 k6,LdA w2 (d1.add (n1.toNat*4)) [string s1,slice a1 k1 k2,slice a2 k3 k4,slice a3 k5 k6]∧
 ∀k7,w2.heap.size≤k7→
 ∀w3,KpL [] w2 w3→
 CallW Tryz.prog 98 #[string s1] w3 fun e1 w4 =>
 ∃b1,e1=returned (Value.bool b1)∧
 KpL [] w3 w4∧
 ((!b1)=false→
 Ev Tryz.prog (Instr.lookup 181 (map m1) (string s1) false) w4 fun y2 w5 =>
 ∃b2,y2=Value.bool b2∧
 ∃l2,KpL l2 w4 w5∧
 NotIn k7 l2∧
 (b2=true→
 R (returned (int i64 11)) w5)∧
 (b2=false→
 CallW Tryz.prog 70 (#[agg #[slice a1 k1 k2,slice a2 k3 k4,slice a3 k5 k6]]) w5 fun e2 w6 =>
 ∃n2,e2=returned (int i64 n2)∧
 KpL [] w5 w6∧
 (n2≠0→
 R (returned (int i64 2)) w6)∧
 (¬n2≠0→
 Ev Tryz.prog (do
 Instr.mapUpdate 181 (map m1) (string s1) (Value.bool true)
 pure undef) w6 fun y3 w7 =>
 y3=tuple #[]∧
 ∃l3,KpL l3 w6 w7∧
 NotIn k7 l3∧
 InI i64 (n1+1)∧
 P1 [int i64 (n1+1)] w7∧
 P2 [int i64 (n1+1)] w7<P2 [int i64 n1] w2)))∧
 ((!b1)=true→
 R (returned (int i64 11)) w4))∧
 (¬n1<(↑an:Int)→
 R (returned (int i64 0)) w2))):Calls Tryz.prog 42 #[slice aa an ac] w R :=
 fnc0 (an:={ loops:=[⟨5,[12],[2,5,13,14,15,16,17,18,19,20,21,22,23,24,25,26,27,28,29,30,31,32,33],[]⟩] }) (args:=[.a (.c (.v (.slice aa an ac)))]) Tryz_ok Tryz.func42 (by kernel_rfl) rfl rfl h
theorem whole_vc{aa:Option Addr}{an ac:Nat}{w:World}{R:Ending→World→Prop}
 (h :
 ∀k1,w.heap.size≤k1→
 ∀w1,KpL [] w w1→
 Hb w1 k1 #[slice none 0 0,slice none 0 0] 189→
 CallW Tryz.prog 153 #[slice aa an ac] w1 fun e1 w2 =>
 ∃n1,e1=returned (int i64 n1)∧
 KpL [] w1 w2∧
 (n1≠0→
 ∀w3,KpL [k1] w2 w3→
 Hb w3 k1 #[slice none 0 0,slice none 0 0] 189→
 R (returned (tuple #[agg #[slice none 0 0,slice none 0 0],int i64 n1])) w3)∧
 (¬n1≠0→
 ∀k2,w2.heap.size≤k2→
 ∃(P1:List Value→World→Prop) (P2:List Value→World→Nat),(∀w4,KpL [] w2 w4→
 Hb w4 k2 #[slice none 0 0,slice none 0 0] 189∧
 Hb w4 k1 #[slice none 0 0,slice none 0 0] 189→
 P1 [int i64 0,slice none 0 0,slice none 0 0] w4)∧
 ∀n2 a1 k3 k4 a2 k5 k6 w5,Hb w5 k2 #[slice a1 k3 k4,slice a2 k5 k6] 189→
 P1 [int i64 n2,slice a1 k3 k4,slice a2 k5 k6] w5→
 (n2<(↑an:Int)→
 ∃d1,aa=some d1∧
 0≤n2∧
 n2<(↑an:Int)∧
 (Hb w5 k2 #[slice a1 k3 k4,slice a2 k5 k6] 189∧
 Hb w5 k1 #[slice none 0 0,slice none 0 0] 189→
 ∃s1 n3 n4,LdA w5 (d1.add (n2.toNat*3)) [string s1,int i64 n3,int i64 n4]∧
 ∀k7,w5.heap.size≤k7→
 (∀k8,w5.heap.size≤k8→
 (∀w6,KpL [] w5 w6→
 Hb w6 k8 #[int i64 n3] 3∧
 Hb w6 k7 #[string s1,int i64 n3,int i64 n4] 153∧
 Hb w6 k2 #[slice a1 k3 k4,slice a2 k5 k6] 189∧
 Hb w6 k1 #[slice none 0 0,slice none 0 0] 189→
 Ev Tryz.prog (Builtin.append_ #[78,78] 78 #[slice a1 k3 k4,slice (some (Addr.mk k8 0 none)) 1 1]) w6 fun y1 w7 =>
 ∃a3 k9 k10,y1=slice a3 k9 k10∧
 ∃l1,KpL l1 w6 w7∧
 (NotIn k8 l1∧
 NotIn k7 l1∧
 NotIn k2 l1∧
 NotIn k1 l1)∧
 (Hb w7 k8 #[int i64 n3] 3∧
 Hb w7 k7 #[string s1,int i64 n3,int i64 n4] 153∧
 Hb w7 k2 #[slice a1 k3 k4,slice a2 k5 k6] 189∧
 Hb w7 k1 #[slice none 0 0,slice none 0 0] 189→
 (LdA w7 (Addr.mk k7 (0+2) none) [int i64 n4]∧
 LdA w7 (Addr.mk k2 (0+1) none) [slice a2 k5 k6]∧
 True)∧
 ∀k11,w7.heap.size≤k11→
 ∀w8,KpL [] w7 w8→
 Hb w8 k11 #[int i64 n4] 3∧
 Hb w8 k8 #[int i64 n3] 3∧
 Hb w8 k7 #[string s1,int i64 n3,int i64 n4] 153∧
 Hb w8 k2 #[slice a1 k3 k4,slice a2 k5 k6] 189∧
 Hb w8 k1 #[slice none 0 0,slice none 0 0] 189→
 Ev Tryz.prog (Builtin.append_ #[78,78] 78 #[slice a2 k5 k6,slice (some (Addr.mk k11 0 none)) 1 1]) w8 fun y2 w9 =>
 ∃a4 k12 k13,y2=slice a4 k12 k13∧
 ∃l2,KpL l2 w8 w9∧
 (NotIn k11 l2∧
 NotIn k8 l2∧
 NotIn k7 l2∧
 NotIn k2 l2∧
 NotIn k1 l2)∧
 InI i64 (n2+1)∧
 ∀w10,KpL [k2,k2] w9 w10→
 Hb w10 k11 #[int i64 n4] 3∧
 Hb w10 k8 #[int i64 n3] 3∧
 Hb w10 k7 #[string s1,int i64 n3,int i64 n4] 153∧
 Hb w10 k2 #[slice a3 k9 k10,slice a4 k12 k13] 189∧
 Hb w10 k1 #[slice none 0 0,slice none 0 0] 189→
 P1 [int i64 (n2+1),slice a3 k9 k10,slice a4 k12 k13] w10∧
 P2 [int i64 (n2+1),slice a3 k9 k10,slice a4 k12 k13] w10<P2 [int i64 n2,slice a1 k3 k4,slice a2 k5 k6] w5))∧
 ∀k14,w5.heap.size≤k14→
 ∀w11,KpL [] w5 w11→
 Hb w11 k14 #[int i64 n4] 3∧
 Hb w11 k8 #[int i64 n3] 3∧
 Hb w11 k7 #[string s1,int i64 n3,int i64 n4] 153∧
 Hb w11 k2 #[slice a1 k3 k4,slice a2 k5 k6] 189∧
 Hb w11 k1 #[slice none 0 0,slice none 0 0] 189→
 Ev Tryz.prog (Builtin.append_ #[78,78] 78 #[slice a1 k3 k4,slice (some (Addr.mk k8 0 none)) 1 1]) w11 fun y3 w12 =>
 ∃a5 k15 k16,y3=slice a5 k15 k16∧
 ∃l3,KpL l3 w11 w12∧
 (NotIn k14 l3∧
 NotIn k8 l3∧
 NotIn k7 l3∧
 NotIn k2 l3∧
 NotIn k1 l3)∧
 (Hb w12 k14 #[int i64 n4] 3∧
 Hb w12 k8 #[int i64 n3] 3∧
 Hb w12 k7 #[string s1,int i64 n3,int i64 n4] 153∧
 Hb w12 k2 #[slice a1 k3 k4,slice a2 k5 k6] 189∧
 Hb w12 k1 #[slice none 0 0,slice none 0 0] 189→
 (LdA w12 (Addr.mk k2 (0+1) none) [slice a2 k5 k6]∧
 True)∧
 (Hb w12 k14 #[int i64 n4] 3∧
 Hb w12 k8 #[int i64 n3] 3∧
 Hb w12 k7 #[string s1,int i64 n3,int i64 n4] 153∧
 Hb w12 k2 #[slice a1 k3 k4,slice a2 k5 k6] 189∧
 Hb w12 k1 #[slice none 0 0,slice none 0 0] 189→
 Ev Tryz.prog (Builtin.append_ #[78,78] 78 #[slice a2 k5 k6,slice (some (Addr.mk k14 0 none)) 1 1]) w12 fun y4 w13 =>
 ∃a6 k17 k18,y4=slice a6 k17 k18∧
 ∃l4,KpL l4 w12 w13∧
 (NotIn k14 l4∧
 NotIn k8 l4∧
 NotIn k7 l4∧
 NotIn k2 l4∧
 NotIn k1 l4)∧
 InI i64 (n2+1)∧
 ∀w14,KpL [k2,k2] w13 w14→
 Hb w14 k14 #[int i64 n4] 3∧
 Hb w14 k8 #[int i64 n3] 3∧
 Hb w14 k7 #[string s1,int i64 n3,int i64 n4] 153∧
 Hb w14 k2 #[slice a5 k15 k16,slice a6 k17 k18] 189∧
 Hb w14 k1 #[slice none 0 0,slice none 0 0] 189→
 P1 [int i64 (n2+1),slice a5 k15 k16,slice a6 k17 k18] w14∧
 P2 [int i64 (n2+1),slice a5 k15 k16,slice a6 k17 k18] w14<P2 [int i64 n2,slice a1 k3 k4,slice a2 k5 k6] w5)))∧
 ∀k19,w5.heap.size≤k19→
 ∀k20,w5.heap.size≤k20→
 ∀w15,KpL [] w5 w15→
 Hb w15 k20 #[int i64 n3] 3∧
 Hb w15 k19 #[int i64 n4] 3∧
 Hb w15 k7 #[string s1,int i64 n3,int i64 n4] 153∧
 Hb w15 k2 #[slice a1 k3 k4,slice a2 k5 k6] 189∧
 Hb w15 k1 #[slice none 0 0,slice none 0 0] 189→
 Ev Tryz.prog (Builtin.append_ #[78,78] 78 #[slice a1 k3 k4,slice (some (Addr.mk k20 0 none)) 1 1]) w15 fun y5 w16 =>
 ∃a7 k21 k22,y5=slice a7 k21 k22∧
 ∃l5,KpL l5 w15 w16∧
 (NotIn k20 l5∧
 NotIn k19 l5∧
 NotIn k7 l5∧
 NotIn k2 l5∧
 NotIn k1 l5)∧
 (Hb w16 k20 #[int i64 n3] 3∧
 Hb w16 k19 #[int i64 n4] 3∧
 Hb w16 k7 #[string s1,int i64 n3,int i64 n4] 153∧
 Hb w16 k2 #[slice a1 k3 k4,slice a2 k5 k6] 189∧
 Hb w16 k1 #[slice none 0 0,slice none 0 0] 189→
 (LdA w16 (Addr.mk k2 (0+1) none) [slice a2 k5 k6]∧
 True)∧
 (Hb w16 k20 #[int i64 n3] 3∧
 Hb w16 k19 #[int i64 n4] 3∧
 Hb w16 k7 #[string s1,int i64 n3,int i64 n4] 153∧
 Hb w16 k2 #[slice a1 k3 k4,slice a2 k5 k6] 189∧
 Hb w16 k1 #[slice none 0 0,slice none 0 0] 189→
 Ev Tryz.prog (Builtin.append_ #[78,78] 78 #[slice a2 k5 k6,slice (some (Addr.mk k19 0 none)) 1 1]) w16 fun y6 w17 =>
 ∃a8 k23 k24,y6=slice a8 k23 k24∧
 ∃l6,KpL l6 w16 w17∧
 (NotIn k20 l6∧
 NotIn k19 l6∧
 NotIn k7 l6∧
 NotIn k2 l6∧
 NotIn k1 l6)∧
 InI i64 (n2+1)∧
 ∀w18,KpL [k2,k2] w17 w18→
 Hb w18 k20 #[int i64 n3] 3∧
 Hb w18 k19 #[int i64 n4] 3∧
 Hb w18 k7 #[string s1,int i64 n3,int i64 n4] 153∧
 Hb w18 k2 #[slice a7 k21 k22,slice a8 k23 k24] 189∧
 Hb w18 k1 #[slice none 0 0,slice none 0 0] 189→
 P1 [int i64 (n2+1),slice a7 k21 k22,slice a8 k23 k24] w18∧
 P2 [int i64 (n2+1),slice a7 k21 k22,slice a8 k23 k24] w18<P2 [int i64 n2,slice a1 k3 k4,slice a2 k5 k6] w5))))∧
 (¬n2<(↑an:Int)→
 ∀w19,KpL [k1] w5 w19→
 Hb w19 k2 #[slice a1 k3 k4,slice a2 k5 k6] 189∧
 Hb w19 k1 #[slice a1 k3 k4,slice a2 k5 k6] 189→
 R (returned (tuple #[agg #[slice a1 k3 k4,slice a2 k5 k6],int i64 0])) w19))):Calls Tryz.prog 104 #[slice aa an ac] w R :=
 fnc0 (an:={ loops:=[⟨6,[16],[7,17,18,19,20,21,22,23,24,25,26,27,28,29,30,31,32,33,34],[5]⟩],all:=true }) (args:=[.a (.c (.v (.slice aa an ac)))]) Tryz_ok Tryz.func104 (by kernel_rfl) rfl rfl h
end Go.Vc
namespace Go.Vc
open Go Go.Proofs
instance lawBA:LawfulBEq ByteArray where
 eq_of_beq h:=(baq _ _).1 h
 rfl:=(baq _ _).2 rfl
def MetAt(M:List Nat)(w:World)(m:Nat)(met:List ByteArray):Prop:=MapAt Value.string tB M w m (met.map fun s=>(s,true))
theorem u181:Tryz.prog.underlying 181=some (.map 9 4):=by kernel_rfl
theorem zero_of{P:Program}{t:TypeId}{z:Value}(h:(P.info? t).bind (·.zero)=some z)(w:World):(zeroValue t).run P w=.ok z w:=by
 obtain⟨i,hi,hz⟩:=Option.bind_eq_some_iff.1 h
 simp[zeroValue,run_typeInfo hi,hz]
theorem z4(w:World):(zeroValue 4).run Tryz.prog w=.ok (.bool false) w:=zero_of (by kernel_rfl) w
theorem getM_met(met:List ByteArray)(s:ByteArray):getM (met.map fun s=>(s,true)) s=if s∈met then some true else none:=by
 unfold getM
 by_cases h:s∈met
 ·rw[if_pos h]
  have:(met.map fun s=>(s,true)).find? (fun p=>decide (p.1=s))=some (s,true):=by
   induction met with
   |nil=>simp at h
   |cons x r ih =>
    rw[List.map_cons,List.find?_cons]
    by_cases hx:x=s
    ·simp[hx]
    ·simp only[hx,decide_false]
     exact ih (by simpa[Ne.symm hx]using h)
  rw[this];rfl
 ·rw[if_neg h]
  have:(met.map fun s=>(s,true)).find? (fun p=>decide (p.1=s))=none:=by
   rw[List.find?_eq_none]
   intro p hp
   simp only[List.mem_map]at hp
   obtain⟨x,hx,rfl⟩:=hp
   simp only[decide_eq_true_eq]
   rintro rfl
   exact h hx
  rw[this];rfl
theorem ev_met{M:List Nat}{w:World}{m:Nat}{met:List ByteArray}(h:MetAt M w m met)(s:ByteArray){Q:Value→World→Prop}(hq:Q (.bool (decide (s∈met))) w):
 Ev Tryz.prog (Instr.lookup 181 (.map (some m)) (.string s) false) w Q:=by
 refine ev_lookup (enc:=Value.string) keyStr u181 z4 h s false (fun x cs hg hR=>?_) (fun hg=>?_)
 ·rw[getM_met]at hg
  split at hg
  ·rename_i hm
   simp only[Option.some.injEq]at hg
   subst hg
   have:cs=[.bool true]:=hR
   subst this
   rw[decide_eq_true hm]at hq
   exact hq
  ·cases hg
 ·rw[getM_met]at hg
  split at hg
  ·cases hg
  ·rename_i hm
   rw[decide_eq_false hm]at hq
   exact hq
theorem ev_meet{M:List Nat}{w:World}{m:Nat}{met:List ByteArray}(h:MetAt M w m met){s:ByteArray}(hs:s∉met){Q:Value→World→Prop}(hq:∀w',MetAt M w' m (met++[s])→KpL [m] w w'→Q undef w'):
 Ev Tryz.prog (do Instr.mapUpdate 181 (.map (some m)) (.string s) (.bool true);pure undef) w Q:=by
 refine ev_mapUpdate (enc:=Value.string) (cs:=[.bool true]) (v:=true) keyStr u181 h s rfl fun w' hm hk=>hq w' ?_ hk
 have:putM (met.map fun s=>(s,true)) s true=(met++[s]).map fun s=>(s,true):=by
  unfold putM
  rw[if_neg]
  ·simp
  ·simp only[List.any_map,List.any_eq_true,not_exists]
   intro x hx
   simp at hx
   exact hs (hx.2▸hx.1)
 rw[this]at hm
 exact hm
def dimsL:List ByteArray→List Dim→Int×List ByteArray
 |met,[]=>(0,met)
 |met,d::r=>if nameOk d.name=false∨d.name∈met then (11,met) else if d.lo < -1073741824∨1073741824<d.lo∨d.hi<d.lo∨1073741825<d.hi then (3,met) else dimsL (met++[d.name]) r
def dimsE(met:List ByteArray)(ds:List Dim):Int×List ByteArray:=if ds.length<1∨4<ds.length then (13,met) else dimsL met ds
theorem dims_ok{M M':List Nat}{w:World}{ds:List Dim}{a:Option Addr}{n c m:Nat}{met:List ByteArray}(hm:MetAt M w m met)(hd:R (tSl tDim) (m::M') w ds [.slice a n c]):
 Calls Tryz.prog 162 #[.slice a n c,.map (some m)] w fun e w'=>e=.returned (.int .i64 (dimsE met ds).1)∧KpL [m] w w'∧MetAt M w' m (dimsE met ds).2:=by
 obtain⟨rfl,hn1,hn2⟩:=hd.sl_len
 have hmx:maxSl=140737488355328:=rfl
 refine dims_vc ⟨fun h1=>⟨fun h4=>?_,fun h4=>?_⟩,fun h1=>?_⟩
 ·rw[show dimsE met ds=(13,met) from by unfold dimsE;rw[if_pos (by omega)]]
  exact⟨rfl,KpL.refl _ _,hm⟩
 rotate_left
 ·rw[show dimsE met ds=(13,met) from by unfold dimsE;rw[if_pos (by omega)]]
  exact⟨rfl,KpL.refl _ _,hm⟩
 rw[show dimsE met ds=dimsL met ds from by unfold dimsE;rw[if_neg (by omega)]]
 refine⟨fun vs w'=>∃(i:Nat) (mt:List ByteArray),vs=[.int .i64 (i:Int)]∧i≤ds.length∧KpL [m] w w'∧MetAt M w' m mt∧dimsL mt (ds.drop i)=dimsL met ds,fun vs _=>match vs with|[.int _ i]=>ds.length - i.toNat|_=>0,
  ⟨0,met,rfl,by omega,KpL.refl _ _,hm,rfl⟩,?_⟩
 rintro n1 w1 ⟨i,mt,hv,hi,hk,hm1,he1⟩
 simp only[List.cons.injEq,Value.int.injEq,true_and,and_true]at hv
 subst hv
 have hd1:=hd.kp hk (by simp)
 constructor
 ·intro hlt
  have g1:i<ds.length:=by omega
  obtain⟨ad,cs,rfl,hv1,hld1,_,_⟩:=hd1.sl_get g1
  obtain⟨rfl,hok1⟩:=hv1.dim
  rw[List.drop_eq_getElem_cons g1,dimsL]at he1
  refine⟨ad,rfl,by omega,hlt,_,_,_,hld1,fun k1 hk1 w2 hk2=>⟨(name_ok _ w2).mono ?_⟩⟩
  rintro e w3 ⟨rfl,hk3⟩
  have hk13:=hk2.trans hk3
  have hm3:=hm1.kp0 hk13
  have hml:=hm1.lt
  have hk03:KpL [m] w w3:=hk.trans (hk13.mono (by simp))
  have fin:∀{x:Int} {w':World},dimsL met ds=(x,mt)→KpL [m] w w'→MetAt M w' m mt→Ending.returned (.int .i64 x)=.returned (.int .i64 (dimsL met ds).1)∧KpL [m] w w'∧MetAt M w' m (dimsL met ds).2:=by
   intro x w' h1 h2 h3
   rw[h1]
   exact⟨rfl,h2,h3⟩
  refine⟨_,rfl,hk3,fun hb=>?_,fun hb=>fin (by rw[←he1,if_pos (.inl (nb_t hb))]) hk03 hm3⟩
  refine ev_met hm3 _ ⟨_,rfl,[],KpL.refl _ _,⟨by simp⟩,fun hmem=>fin (by rw[←he1,if_pos (.inr (of_decide_eq_true hmem))]) hk03 hm3,fun hnm=>?_⟩
  have hnm':=of_decide_eq_false hnm
  rw[if_neg (by rw[nb_f hb];simp[hnm'])]at he1
  refine⟨fun c1=>⟨fun c2=>⟨fun c3=>⟨fun c4=>fin (by rw[←he1,if_pos (by omega)]) hk03 hm3,fun c4=>?_⟩,fun c3=>fin (by rw[←he1,if_pos (by omega)]) hk03 hm3⟩,fun c2=>fin (by rw[←he1,if_pos (by omega)]) hk03 hm3⟩,fun c1=>fin (by rw[←he1,if_pos (by omega)]) hk03 hm3⟩
  rw[if_neg (by omega)]at he1
  refine ev_meet hm3 hnm' fun w5 hm5 hk5=>⟨rfl,[m],hk5,⟨by simp;omega⟩,ini_i64.2 (by omega),⟨i+1,_,by simp,by omega,hk03.trans hk5,hm5,he1⟩,?_⟩
  show ds.length - ((i:Int)+1).toNat<ds.length - (i:Int).toNat
  omega
 ·intro hge
  rw[List.drop_eq_nil_of_le (by omega),dimsL]at he1
  rw[←he1]
  exact⟨rfl,hk,hm1⟩
theorem shape_ok{M':List Nat}{w:World}{ds:List Dim}{a:Option Addr}{n c:Nat}(hd:R (tSl tDim) M' w ds [.slice a n c]):
 Calls Tryz.prog 153 #[.slice a n c] w (PureR (.int .i64 (dimsE [] ds).1) w):=by
 refine shape_vc (ev_makeMap (enc:=Value.string) (t:=tB) (M:=[]) (by simp) fun w1 hm1 hk1=>⟨_,rfl,[],hk1,?_⟩)
 refine⟨(dims_ok (M:=[]) (met:=[]) hm1 (hd.fresh hk1 (N:=[w.heap.size]) (by simp))).mono ?_⟩
 rintro e w2 ⟨rfl,hk2,_⟩
 exact⟨_,rfl,_,hk2,rfl,hk1.more hk2 (by simp)⟩
def attrsL:List ByteArray→List Attr→Int
 |_,[]=>0
 |met,a::r=>if nameOk a.name=false∨a.name∈met then 11 else if a.type<1∨4<a.type then 12 else attrsL (met++[a.name]) r
def schemaE(ds:List Dim)(ats:List Attr):Int:=if (dimsE [] ds).1≠0 then (dimsE [] ds).1 else if ats.length<1∨6<ats.length then 9 else attrsL (dimsE [] ds).2 ats
theorem schema_ok{M M':List Nat}{w:World}{ds:List Dim}{ats:List Attr}{a b:Option Addr}{n c m r:Nat}(hd:R (tSl tDim) M w ds [.slice a n c])(ha:R (tSl tAttr) M' w ats [.slice b m r]):
 Calls Tryz.prog 133 #[.slice a n c,.slice b m r] w (PureR (.int .i64 (schemaE ds ats)) w):=by
 obtain⟨rfl,hn1,hn2⟩:=ha.sl_len
 have hmx:maxSl=140737488355328:=rfl
 refine schema_vc (ev_makeMap (enc:=Value.string) (t:=tB) (M:=[]) (by simp) fun w1 hm1 hk1=>⟨_,rfl,[],hk1,?_⟩)
 refine⟨(dims_ok (M:=[]) (met:=[]) hm1 (hd.fresh hk1 (N:=[w.heap.size]) (by simp))).mono ?_⟩
 rintro e w2 ⟨rfl,hk2,hm2⟩
 have ha2:=(ha.fresh hk1 (N:=[w.heap.size]) (by simp)).kp hk2 (by simp)
 generalize hmm:w.heap.size=mm at *
 have hk02:KpL [] w w2:=hk1.more hk2 (by simp[hmm])
 have e0:schemaE ds ats=if (dimsE [] ds).1≠0 then (dimsE [] ds).1 else if ats.length<1∨6<ats.length then 9 else attrsL (dimsE [] ds).2 ats:=rfl
 refine⟨_,rfl,_,hk2,fun hne=>⟨by rw[e0,if_pos hne],hk02⟩,fun hz=>?_⟩
 rw[if_neg hz]at e0
 refine⟨fun h1=>⟨fun h6=>⟨by rw[e0,if_pos (by omega)],hk02⟩,fun h6=>?_⟩,fun h1=>⟨by rw[e0,if_pos (by omega)],hk02⟩⟩
 rw[if_neg (by omega)]at e0
 refine⟨fun vs w'=>∃(i:Nat) (mt:List ByteArray),vs=[.int .i64 (i:Int)]∧i≤ats.length∧KpL [] w w'∧KpL [mm] w2 w'∧MetAt [] w' mm mt∧attrsL mt (ats.drop i)=attrsL (dimsE [] ds).2 ats,fun vs _=>match vs with|[.int _ i]=>ats.length - i.toNat|_=>0,
  ⟨0,_,rfl,by omega,hk02,KpL.refl _ _,hm2,rfl⟩,?_⟩
 rintro n1 w3 ⟨i,mt,hv,hi,hk03,hk23,hm3,he1⟩
 simp only[List.cons.injEq,Value.int.injEq,true_and,and_true]at hv
 subst hv
 have ha3:=ha2.kp hk23 (by simp)
 constructor
 ·intro hlt
  have g1:i<ats.length:=by omega
  obtain⟨ad,cs,rfl,hv1,hld1,_,_⟩:=ha3.sl_get g1
  obtain⟨rfl,hok1⟩:=hv1.attr
  rw[List.drop_eq_getElem_cons g1,attrsL]at he1
  refine⟨ad,rfl,by omega,hlt,_,_,hld1,fun k1 hk1' w4 hk4=>⟨(name_ok _ w4).mono ?_⟩⟩
  rintro e w5 ⟨rfl,hk5⟩
  have hk35:=hk4.trans hk5
  have hm5:=hm3.kp0 hk35
  have hml:=hm3.lt
  have hk05:KpL [] w w5:=hk03.trans hk35
  refine⟨_,rfl,hk5,fun hb=>?_,fun hb=>⟨by rw[e0,←he1,if_pos (.inl (nb_t hb))],hk05⟩⟩
  refine ev_met hm5 _ ⟨_,rfl,[],KpL.refl _ _,⟨by simp⟩,fun hmem=>⟨by rw[e0,←he1,if_pos (.inr (of_decide_eq_true hmem))],hk05⟩,fun hnm=>?_⟩
  have hnm':=of_decide_eq_false hnm
  rw[if_neg (by rw[nb_f hb];simp[hnm'])]at he1
  refine⟨fun c1=>⟨fun c2=>⟨by rw[e0,←he1,if_pos (by omega)],hk05⟩,fun c2=>?_⟩,fun c1=>⟨by rw[e0,←he1,if_pos (by omega)],hk05⟩⟩
  rw[if_neg (by omega)]at he1
  refine ev_meet hm5 hnm' fun w7 hm7 hk7=>⟨rfl,[mm],hk7,⟨by simp;omega⟩,ini_i64.2 (by omega),⟨i+1,_,by simp,by omega,hk05.more hk7 (by simp;omega),(hk23.trans (hk35.mono (by simp))).trans hk7,hm7,he1⟩,?_⟩
  show ats.length - ((i:Int)+1).toNat<ats.length - (i:Int).toNat
  omega
 ·intro hge
  rw[List.drop_eq_nil_of_le (by omega),attrsL]at he1
  exact⟨by rw[e0,←he1],hk03⟩
def cellsE(ds:List Dim)(ats:List Attr):Option Cell→List Cell→Int
 |_,[]=>0
 |none,c::r=>if cellE ds ats c≠0 then cellE ds ats c else cellsE ds ats (some c) r
 |some p,c::r=>if cellE ds ats c≠0 then cellE ds ats c else if cmpL p.at_ c.at_=0 then 5 else if cmpL p.at_ c.at_=1 then 2 else cellsE ds ats (some c) r
def arrE(x:Arr):Int:=if schemaE x.dims x.attrs≠0 then schemaE x.dims x.attrs else if 4096<x.cells.length then 9 else cellsE x.dims x.attrs none x.cells
theorem check_ok{M1 M2 M3:List Nat}{w:World}{x:Arr}{a1 a2 a3:Option Addr}{n1 c1 n2 c2 n3 c3:Nat}(h1:R (tSl tDim) M1 w x.dims [.slice a1 n1 c1])(h2:R (tSl tAttr) M2 w x.attrs [.slice a2 n2 c2])(h3:R (tSl tCell) M3 w x.cells [.slice a3 n3 c3]):
 Calls Tryz.prog 70 #[.agg #[.slice a1 n1 c1,.slice a2 n2 c2,.slice a3 n3 c3]] w (PureR (.int .i64 (arrE x)) w):=by
 have hmx:maxSl=140737488355328:=rfl
 obtain⟨rfl,_,_⟩:=h3.sl_len
 refine check_vc fun _ _ w1 hk1=>⟨(schema_ok (h1.kp0 hk1) (h2.kp0 hk1)).mono ?_⟩
 rintro e w2 ⟨rfl,hk2⟩
 have hk02:=hk1.trans hk2
 have e0:arrE x=if schemaE x.dims x.attrs≠0 then schemaE x.dims x.attrs else if 4096<x.cells.length then 9 else cellsE x.dims x.attrs none x.cells:=rfl
 refine⟨_,rfl,hk2,fun hne=>⟨by rw[e0,if_pos hne],hk02⟩,fun hz=>?_⟩
 rw[if_neg hz]at e0
 refine⟨fun hl=>⟨by rw[e0,if_pos (by omega)],hk02⟩,fun hl=>?_⟩
 rw[if_neg (by omega)]at e0
 refine⟨fun vs w'=>∃(i:Nat),vs=[.int .i64 (i:Int)]∧i≤x.cells.length∧KpL [] w w'∧cellsE x.dims x.attrs (if i=0 then none else x.cells[i - 1]?) (x.cells.drop i)=cellsE x.dims x.attrs none x.cells,fun vs _=>match vs with|[.int _ i]=>x.cells.length - i.toNat|_=>0,
  ⟨0,rfl,by omega,hk02,rfl⟩,?_⟩
 rintro n1 w3 ⟨i,hv,hi,hk,he1⟩
 simp only[List.cons.injEq,Value.int.injEq,true_and,and_true]at hv
 subst hv
 constructor
 ·intro hlt
  have g1:i<x.cells.length:=by omega
  obtain⟨ad,cs,rfl,hv1,hld1,_,_⟩:=(h3.kp0 hk).sl_get g1
  obtain⟨b1,p1,q1,b2,p2,q2,rfl,hx1,hx2⟩:=hv1.cell
  rw[List.drop_eq_getElem_cons g1]at he1
  refine⟨ad,rfl,by omega,hlt,_,_,_,_,_,_,hld1,fun k1 hk1' w4 hk4=>⟨(cell_ok ((h1.kp0 hk).kp0 hk4) ((h2.kp0 hk).kp0 hk4) (hx1.kp0 hk4) (hx2.kp0 hk4)).mono ?_⟩⟩
  rintro e w5 ⟨rfl,hk5⟩
  have hk35:=hk4.trans hk5
  have hk05:KpL [] w w5:=hk.trans hk35
  have dec:x.cells.length - ((i:Int)+1).toNat<x.cells.length - (i:Int).toNat:=by omega
  refine⟨_,rfl,hk5,fun hne=>⟨?_,hk05⟩,fun hz2=>⟨fun hi0=>⟨ini_i64.2 (by omega),⟨i+1,by simp,by omega,hk05,?_⟩,dec⟩,fun hi0=>?_⟩⟩
  ·rw[e0,←he1]
   cases (if i=0 then none else x.cells[i - 1]?)<;>rw[cellsE,if_pos hne]
  ·rw[if_pos (by omega),cellsE,if_neg hz2]at he1
   rw[if_neg (by omega),Nat.add_sub_cancel,List.getElem?_eq_getElem g1]
   exact he1
  have g2:i - 1<x.cells.length:=by omega
  obtain⟨ad2,cs2,had2,hv2,hld2,_,_,hpt⟩:=(h3.kp0 hk05).sl_get2 g2
  simp only[Option.some.injEq]at had2
  subst had2
  obtain⟨b1',p1',q1',b2',p2',q2',rfl,hx1',hx2'⟩:=hv2.cell
  rw[if_neg (by omega),List.getElem?_eq_getElem g2,cellsE,if_neg hz2]at he1
  refine⟨ini_i64.2 (by omega),ad,rfl,by omega,by omega,b1',p1',q1',?_,fun w6 hk6=>⟨(compareS_ok (hx1'.kp0 hk6) ((hx1.kp0 hk35).kp0 hk6)).mono ?_⟩⟩
  ·have:=hpt 0 [.slice b1' p1' q1'] rfl
   rw[show((i:Int) - 1).toNat=i - 1 from by omega]
   exact this
  rintro e w7 ⟨rfl,hk7⟩
  have hk07:KpL [] w w7:=(hk05.trans hk6).trans hk7
  refine⟨_,rfl,hk7,fun c0=>⟨by rw[e0,←he1,if_pos c0],hk07⟩,fun c0=>⟨fun c1=>⟨by rw[e0,←he1,if_neg c0,if_pos c1],hk07⟩,fun c1=>⟨ini_i64.2 (by omega),⟨i+1,by simp,by omega,hk07,?_⟩,dec⟩⟩⟩
  rw[if_neg c0,if_neg c1]at he1
  rw[if_neg (by omega),Nat.add_sub_cancel,List.getElem?_eq_getElem g1]
  exact he1
 ·intro hge
  rw[List.drop_eq_nil_of_le (by omega)]at he1
  refine⟨?_,hk⟩
  rw[e0,←he1]
  cases (if i=0 then none else x.cells[i - 1]?)<;>rfl
def dbL:List ByteArray→List Nm→Int
 |_,[]=>0
 |met,x::r=>if nameOk x.name=false∨x.name∈met then 11 else if arrE x.arr≠0 then 2 else dbL (met++[x.name]) r
def dbE(db:List Nm):Int:=if 16<db.length then 9 else dbL [] db
theorem database_ok{M:List Nat}{w:World}{db:List Nm}{a:Option Addr}{n c:Nat}(hd:R (tSl tNm) M w db [.slice a n c]):Calls Tryz.prog 42 #[.slice a n c] w (PureR (.int .i64 (dbE db)) w):=by
 obtain⟨rfl,hn1,hn2⟩:=hd.sl_len
 have hmx:maxSl=140737488355328:=rfl
 have e0:dbE db=if 16<db.length then 9 else dbL [] db:=rfl
 refine database_vc ⟨fun h=>⟨by rw[e0,if_pos (by omega)],KpL.refl _ _⟩,fun h=>?_⟩
 rw[if_neg (by omega)]at e0
 refine ev_makeMap (enc:=Value.string) (t:=tB) (M:=[]) (by simp) fun w1 hm1 hk1=>⟨_,rfl,[],hk1,?_⟩
 have hd1:=hd.fresh hk1 (N:=[w.heap.size]) (by simp)
 generalize hmm:w.heap.size=mm at *
 refine⟨fun vs w'=>∃(i:Nat) (mt:List ByteArray),vs=[.int .i64 (i:Int)]∧i≤db.length∧KpL [] w w'∧KpL [mm] w1 w'∧MetAt [] w' mm mt∧dbL mt (db.drop i)=dbL [] db,fun vs _=>match vs with|[.int _ i]=>db.length - i.toNat|_=>0,
  ⟨0,[],rfl,by omega,hk1,KpL.refl _ _,hm1,rfl⟩,?_⟩
 rintro n1 w3 ⟨i,mt,hv,hi,hk03,hk23,hm3,he1⟩
 simp only[List.cons.injEq,Value.int.injEq,true_and,and_true]at hv
 subst hv
 have hd3:=hd1.kp hk23 (by simp)
 constructor
 ·intro hlt
  have g1:i<db.length:=by omega
  obtain⟨ad,cs,rfl,hv1,hld1,_,_⟩:=hd3.sl_get g1
  obtain⟨b1,p1,q1,b2,p2,q2,b3,p3,q3,rfl,hsz,hx1,hx2,hx3⟩:=hv1.nm
  rw[List.drop_eq_getElem_cons g1,dbL]at he1
  refine⟨ad,rfl,by omega,hlt,_,_,_,_,_,_,_,_,_,_,hld1,fun k1 hk1' w4 hk4=>⟨(name_ok _ w4).mono ?_⟩⟩
  rintro e w5 ⟨rfl,hk5⟩
  have hk35:=hk4.trans hk5
  have hm5:=hm3.kp0 hk35
  have hml:=hm3.lt
  have hk05:KpL [] w w5:=hk03.trans hk35
  refine⟨_,rfl,hk5,fun hb=>?_,fun hb=>⟨by rw[e0,←he1,if_pos (.inl (nb_t hb))],hk05⟩⟩
  refine ev_met hm5 _ ⟨_,rfl,[],KpL.refl _ _,⟨by simp⟩,fun hmem=>⟨by rw[e0,←he1,if_pos (.inr (of_decide_eq_true hmem))],hk05⟩,fun hnm=>?_⟩
  have hnm':=of_decide_eq_false hnm
  rw[if_neg (by rw[nb_f hb];simp[hnm'])]at he1
  refine⟨(check_ok (hx1.kp0 hk35) (hx2.kp0 hk35) (hx3.kp0 hk35)).mono ?_⟩
  rintro e w6 ⟨rfl,hk6⟩
  have hm6:=hm5.kp0 hk6
  have hk06:=hk05.trans hk6
  refine⟨_,rfl,hk6,fun hne=>⟨by rw[e0,←he1,if_pos hne],hk06⟩,fun hz=>?_⟩
  rw[if_neg hz]at he1
  refine ev_meet hm6 hnm' fun w7 hm7 hk7=>⟨rfl,[mm],hk7,⟨by simp;omega⟩,ini_i64.2 (by omega),⟨i+1,_,by simp,by omega,hk06.more hk7 (by simp;omega),(hk23.trans ((hk35.trans hk6).mono (by simp))).trans hk7,hm7,he1⟩,?_⟩
  show db.length - ((i:Int)+1).toNat<db.length - (i:Int).toNat
  omega
 ·intro hge
  rw[List.drop_eq_nil_of_le (by omega),dbL]at he1
  exact⟨by rw[e0,←he1],hk03⟩
end Go.Vc
namespace Go.Vc
open Go Go.Proofs
theorem R.bare{α:Type}{t:Ty α}{M:List Nat}{w:World}{x:α}{cs:List Value}(h:R t M w x cs):R t [] w x cs:=h.weak (by simp)
end Go.Vc
namespace Go.Vc
open Go Go.Proofs
open Go.Value Go.Ending Go.IntKind
set_option maxRecDepth 100000
theorem dIs_vc{d bd bn N cd cn:Nat}{pe:Option Addr}{pn pc:Nat}{fu:Int}{pk:Option Addr}{kn kc:Nat}{dw:Bool}{wr sy st:Int}{w:World}{R:Ending→World→Prop}
 (hk:Hb w d #[slice (some (Addr.mk bd 0 none)) N cd,slice (some (Addr.mk bn 0 none)) N cn,slice pe pn pc,int i64 fu,slice pk kn kc,Value.bool dw,int i64 wr,int i64 sy,int i64 st] 99)
 (h :
 R (returned (Value.bool (decide ((0:Int)<(↑N:Int))))) w):Calls Tryz.prog 62 #[pointer (some (Addr.mk d 0 none))] w R :=
 fncK (an:={}) (args:=[.a (.c (.loc 0 0))]) (rho:=[d]) (hp:=[(0,99,[.v (.slice (some ⟨bd,0,none⟩) N cd),.v (.slice (some ⟨bn,0,none⟩) N cn),.v (.slice pe pn pc),.v (.int .i64 fu),.v (.slice pk kn kc),.sb dw,.v (.int .i64 wr),.v (.int .i64 sy),.v (.int .i64 st)])]) Tryz_ok Tryz.func62 (by kernel_rfl) rfl rfl hk (by simp) (by simpa using block_lt hk) rfl (by simp) h
theorem dSectors_vc{d bd bn N cd cn:Nat}{pe:Option Addr}{pn pc:Nat}{fu:Int}{pk:Option Addr}{kn kc:Nat}{dw:Bool}{wr sy st:Int}{w:World}{R:Ending→World→Prop}
 (hk:Hb w d #[slice (some (Addr.mk bd 0 none)) N cd,slice (some (Addr.mk bn 0 none)) N cn,slice pe pn pc,int i64 fu,slice pk kn kc,Value.bool dw,int i64 wr,int i64 sy,int i64 st] 99)
 (h :
 Hb w d #[slice (some (Addr.mk bd 0 none)) N cd,slice (some (Addr.mk bn 0 none)) N cn,slice pe pn pc,int i64 fu,slice pk kn kc,Value.bool dw,int i64 wr,int i64 sy,int i64 st] 99→
 CallW Tryz.prog 62 #[pointer (some (Addr.mk d 0 none))] w fun e1 w1 =>
 ∃b1,e1=returned (Value.bool b1)∧
 KpL [] w w1∧
 ((!b1)=true→
 R (returned (int i64 0)) w1)∧
 ((!b1)=false→
 (64:Int)≠(0:Int)∧
 R (returned (int i64 (i64.wrap ((↑N:Int).tdiv (64:Int))))) w1)):Calls Tryz.prog 80 #[pointer (some (Addr.mk d 0 none))] w R :=
 fncK (an:={}) (args:=[.a (.c (.loc 0 0))]) (rho:=[d]) (hp:=[(0,99,[.v (.slice (some ⟨bd,0,none⟩) N cd),.v (.slice (some ⟨bn,0,none⟩) N cn),.v (.slice pe pn pc),.v (.int .i64 fu),.v (.slice pk kn kc),.sb dw,.v (.int .i64 wr),.v (.int .i64 sy),.v (.int .i64 st)])]) Tryz_ok Tryz.func80 (by kernel_rfl) rfl rfl hk (by simp) (by simpa using block_lt hk) rfl (by simp) h
theorem dHalf_vc{d bd bn N cd cn:Nat}{pe:Option Addr}{pn pc:Nat}{fu:Int}{pk:Option Addr}{kn kc:Nat}{dw:Bool}{wr sy st:Int}{w:World}{R:Ending→World→Prop}
 (hk:Hb w d #[slice (some (Addr.mk bd 0 none)) N cd,slice (some (Addr.mk bn 0 none)) N cn,slice pe pn pc,int i64 fu,slice pk kn kc,Value.bool dw,int i64 wr,int i64 sy,int i64 st] 99)
 (h :
 Hb w d #[slice (some (Addr.mk bd 0 none)) N cd,slice (some (Addr.mk bn 0 none)) N cn,slice pe pn pc,int i64 fu,slice pk kn kc,Value.bool dw,int i64 wr,int i64 sy,int i64 st] 99→
 CallW Tryz.prog 80 #[pointer (some (Addr.mk d 0 none))] w fun e1 w1 =>
 ∃n1,e1=returned (int i64 n1)∧
 KpL [] w w1∧
 InI i64 (n1 - 2)∧
 (2:Int)≠(0:Int)∧
 R (returned (int i64 (i64.wrap ((n1 - 2).tdiv 2)))) w1):Calls Tryz.prog 50 #[pointer (some (Addr.mk d 0 none))] w R :=
 fncK (an:={}) (args:=[.a (.c (.loc 0 0))]) (rho:=[d]) (hp:=[(0,99,[.v (.slice (some ⟨bd,0,none⟩) N cd),.v (.slice (some ⟨bn,0,none⟩) N cn),.v (.slice pe pn pc),.v (.int .i64 fu),.v (.slice pk kn kc),.sb dw,.v (.int .i64 wr),.v (.int .i64 sy),.v (.int .i64 st)])]) Tryz_ok Tryz.func50 (by kernel_rfl) rfl rfl hk (by simp) (by simpa using block_lt hk) rfl (by simp) h
theorem dRestart_vc{d bd bn N cd cn:Nat}{pe:Option Addr}{pn pc:Nat}{fu:Int}{pk:Option Addr}{kn kc:Nat}{dw:Bool}{wr sy st:Int}{w:World}{R:Ending→World→Prop}
 (hk:Hb w d #[slice (some (Addr.mk bd 0 none)) N cd,slice (some (Addr.mk bn 0 none)) N cn,slice pe pn pc,int i64 fu,slice pk kn kc,Value.bool dw,int i64 wr,int i64 sy,int i64 st] 99)
 (h :
 Hb w d #[slice (some (Addr.mk bd 0 none)) N cd,slice (some (Addr.mk bn 0 none)) N cn,slice pe pn pc,int i64 fu,slice pk kn kc,Value.bool dw,int i64 wr,int i64 sy,int i64 st] 99→
 CallW Tryz.prog 62 #[pointer (some (Addr.mk d 0 none))] w fun e1 w1 =>
 ∃b1,e1=returned (Value.bool b1)∧
 KpL [] w w1∧
 ((!b1)=true→
 Hb w1 d #[slice (some (Addr.mk bd 0 none)) N cd,slice (some (Addr.mk bn 0 none)) N cn,slice pe pn pc,int i64 fu,slice pk kn kc,Value.bool dw,int i64 wr,int i64 sy,int i64 st] 99→
 R (returned (int i64 1)) w1)∧
 ((!b1)=false→
 ∀w2,KpL [d,d,d] w1 w2→
 Hb w2 d #[slice (some (Addr.mk bd 0 none)) N cd,slice (some (Addr.mk bn 0 none)) N cn,slice pe pn pc,int i64 (-1),slice none 0 0,Value.bool false,int i64 wr,int i64 sy,int i64 st] 99→
 R (returned (int i64 0)) w2)):Calls Tryz.prog 34 #[pointer (some (Addr.mk d 0 none))] w R :=
 fncK (an:={ all:=true }) (args:=[.a (.c (.loc 0 0))]) (rho:=[d]) (hp:=[(0,99,[.v (.slice (some ⟨bd,0,none⟩) N cd),.v (.slice (some ⟨bn,0,none⟩) N cn),.v (.slice pe pn pc),.v (.int .i64 fu),.v (.slice pk kn kc),.sb dw,.v (.int .i64 wr),.v (.int .i64 sy),.v (.int .i64 st)])]) Tryz_ok Tryz.func34 (by kernel_rfl) rfl rfl hk (by simp) (by simpa using block_lt hk) rfl (by simp) h
theorem dRead_vc{d bd bn N cd cn:Nat}{pe:Option Addr}{pn pc:Nat}{fu:Int}{pk:Option Addr}{kn kc:Nat}{dw:Bool}{wr sy st:Int}{i:Int}{w:World}{R:Ending→World→Prop}
 (hk:Hb w d #[slice (some (Addr.mk bd 0 none)) N cd,slice (some (Addr.mk bn 0 none)) N cn,slice pe pn pc,int i64 fu,slice pk kn kc,Value.bool dw,int i64 wr,int i64 sy,int i64 st] 99)
 (h :
 Hb w d #[slice (some (Addr.mk bd 0 none)) N cd,slice (some (Addr.mk bn 0 none)) N cn,slice pe pn pc,int i64 fu,slice pk kn kc,Value.bool dw,int i64 wr,int i64 sy,int i64 st] 99→
 CallW Tryz.prog 62 #[pointer (some (Addr.mk d 0 none))] w fun e1 w1 =>
 ∃b1,e1=returned (Value.bool b1)∧
 KpL [] w w1∧
 ((!b1)=true→
 R (returned (tuple #[slice none 0 0,int i64 1])) w1)∧
 ((!b1)=false→
 (¬i<0→
 Hb w1 d #[slice (some (Addr.mk bd 0 none)) N cd,slice (some (Addr.mk bn 0 none)) N cn,slice pe pn pc,int i64 fu,slice pk kn kc,Value.bool dw,int i64 wr,int i64 sy,int i64 st] 99→
 CallW Tryz.prog 80 #[pointer (some (Addr.mk d 0 none))] w1 fun e2 w2 =>
 ∃n1,e2=returned (int i64 n1)∧
 KpL [] w1 w2∧
 (n1≤i→
 R (returned (tuple #[slice none 0 0,int i64 3])) w2)∧
 (¬n1≤i→
 (dw=true→
 R (returned (tuple #[slice none 0 0,int i64 17])) w2)∧
 (dw=false→
 CallW Tryz.prog 92 #[slice (some (Addr.mk bn 0 none)) N cn,int i64 i] w2 fun e3 w3 =>
 ∃a1 k1 k2,e3=returned (slice a1 k1 k2)∧
 KpL [] w2 w3∧
 CallW Tryz.prog 95 #[slice a1 k1 k2] w3 fun e4 w4 =>
 ∃a2 k3 k4,e4=returned (slice a2 k3 k4)∧
 KpL [] w3 w4∧
 R (returned (tuple #[slice a2 k3 k4,int i64 0])) w4)))∧
 (i<0→
 R (returned (tuple #[slice none 0 0,int i64 3])) w1))):Calls Tryz.prog 35 #[pointer (some (Addr.mk d 0 none)),int i64 i] w R :=
 fncK (an:={}) (args:=[.a (.c (.loc 0 0)),.a (.c (.v (.int .i64 i)))]) (rho:=[d]) (hp:=[(0,99,[.v (.slice (some ⟨bd,0,none⟩) N cd),.v (.slice (some ⟨bn,0,none⟩) N cn),.v (.slice pe pn pc),.v (.int .i64 fu),.v (.slice pk kn kc),.sb dw,.v (.int .i64 wr),.v (.int .i64 sy),.v (.int .i64 st)])]) Tryz_ok Tryz.func35 (by kernel_rfl) rfl rfl hk (by simp) (by simpa using block_lt hk) rfl (by simp) h
theorem dFails_vc{d bd bn N cd cn:Nat}{pe:Option Addr}{pn pc:Nat}{fu:Int}{pk:Option Addr}{kn kc:Nat}{dw:Bool}{wr sy st:Int}{w:World}{R:Ending→World→Prop}
 (hk:Hb w d #[slice (some (Addr.mk bd 0 none)) N cd,slice (some (Addr.mk bn 0 none)) N cn,slice pe pn pc,int i64 fu,slice pk kn kc,Value.bool dw,int i64 wr,int i64 sy,int i64 st] 99)
 (h :
 (fu=0→
 Hb w d #[slice (some (Addr.mk bd 0 none)) N cd,slice (some (Addr.mk bn 0 none)) N cn,slice pe pn pc,int i64 fu,slice pk kn kc,Value.bool dw,int i64 wr,int i64 sy,int i64 st] 99→
 CallW Tryz.prog 94 #[pointer (some (Addr.mk d 0 none)),slice pk kn kc] w fun e1 w1 =>
 e1=returned (tuple #[])∧
 ∃l1,KpL l1 w w1∧
 R (returned (Value.bool true)) w1)∧
 (¬fu=0→
 (0<fu→
 ∀w2,KpL [d] w w2→
 Hb w2 d #[slice (some (Addr.mk bd 0 none)) N cd,slice (some (Addr.mk bn 0 none)) N cn,slice pe pn pc,int i64 (i64.wrap (fu - 1)),slice pk kn kc,Value.bool dw,int i64 wr,int i64 sy,int i64 st] 99→
 R (returned (Value.bool false)) w2)∧
 (¬0<fu→
 Hb w d #[slice (some (Addr.mk bd 0 none)) N cd,slice (some (Addr.mk bn 0 none)) N cn,slice pe pn pc,int i64 fu,slice pk kn kc,Value.bool dw,int i64 wr,int i64 sy,int i64 st] 99→
 R (returned (Value.bool false)) w))):Calls Tryz.prog 93 #[pointer (some (Addr.mk d 0 none))] w R :=
 fncK (an:={ muts:=[94],all:=true,wrap:=true }) (args:=[.a (.c (.loc 0 0))]) (rho:=[d]) (hp:=[(0,99,[.v (.slice (some ⟨bd,0,none⟩) N cd),.v (.slice (some ⟨bn,0,none⟩) N cn),.v (.slice pe pn pc),.v (.int .i64 fu),.v (.slice pk kn kc),.sb dw,.v (.int .i64 wr),.v (.int .i64 sy),.v (.int .i64 st)])]) Tryz_ok Tryz.func93 (by kernel_rfl) rfl rfl hk (by simp) (by simpa using block_lt hk) rfl (by simp) h
theorem dSync_vc{d bd bn N cd cn:Nat}{pe:Option Addr}{pn pc:Nat}{fu:Int}{pk:Option Addr}{kn kc:Nat}{dw:Bool}{wr sy st:Int}{w:World}{R:Ending→World→Prop}
 (hk:Hb w d #[slice (some (Addr.mk bd 0 none)) N cd,slice (some (Addr.mk bn 0 none)) N cn,slice pe pn pc,int i64 fu,slice pk kn kc,Value.bool dw,int i64 wr,int i64 sy,int i64 st] 99)
 (h :
 Hb w d #[slice (some (Addr.mk bd 0 none)) N cd,slice (some (Addr.mk bn 0 none)) N cn,slice pe pn pc,int i64 fu,slice pk kn kc,Value.bool dw,int i64 wr,int i64 sy,int i64 st] 99→
 CallW Tryz.prog 62 #[pointer (some (Addr.mk d 0 none))] w fun e1 w1 =>
 ∃b1,e1=returned (Value.bool b1)∧
 KpL [] w w1∧
 ((!b1)=true→
 Hb w1 d #[slice (some (Addr.mk bd 0 none)) N cd,slice (some (Addr.mk bn 0 none)) N cn,slice pe pn pc,int i64 fu,slice pk kn kc,Value.bool dw,int i64 wr,int i64 sy,int i64 st] 99→
 R (returned (int i64 1)) w1)∧
 ((!b1)=false→
 (dw=true→
 Hb w1 d #[slice (some (Addr.mk bd 0 none)) N cd,slice (some (Addr.mk bn 0 none)) N cn,slice pe pn pc,int i64 fu,slice pk kn kc,Value.bool dw,int i64 wr,int i64 sy,int i64 st] 99→
 R (returned (int i64 17)) w1)∧
 (dw=false→
 ∀w2,KpL [d] w1 w2→
 Hb w2 d #[slice (some (Addr.mk bd 0 none)) N cd,slice (some (Addr.mk bn 0 none)) N cn,slice pe pn pc,int i64 fu,slice pk kn kc,Value.bool dw,int i64 wr,int i64 (i64.wrap (sy+1)),int i64 st] 99→
 CallW Tryz.prog 93 #[pointer (some (Addr.mk d 0 none))] w2 fun e2 w3 =>
 ∃b2,e2=returned (Value.bool b2)∧
 ∃l1,KpL l1 w2 w3∧
 (b2=true→
 R (returned (int i64 17)) w3)∧
 (b2=false→
 ∃a1 k1 k2,LdA w3 (Addr.mk d (0+0) none) [slice a1 k1 k2]∧
 ∃a2 k3 k4,LdA w3 (Addr.mk d (0+1) none) [slice a2 k3 k4]∧
 ∀w4,KpL [] w3 w4→
 Ev Tryz.prog (Builtin.copy_ #[33,33] 3 #[slice a1 k1 k2,slice a2 k3 k4]) w4 fun y1 w5 =>
 ∃n1,y1=int i64 n1∧
 ∃l2,KpL l2 w4 w5∧
 (∃(l3:List Value),LdA w5 (Addr.mk d (0+2) none) l3∧
 l3.length=1)∧
 NotFrozen w5 (Addr.mk d (0+2) none) 1∧
 ∀w6,w6=stA w5 (Addr.mk d (0+2) none) [slice none 0 0] 0→
 R (returned (int i64 0)) w6)))):Calls Tryz.prog 37 #[pointer (some (Addr.mk d 0 none))] w R :=
 fncK (an:={ muts:=[93],all:=true,wrap:=true }) (args:=[.a (.c (.loc 0 0))]) (rho:=[d]) (hp:=[(0,99,[.v (.slice (some ⟨bd,0,none⟩) N cd),.v (.slice (some ⟨bn,0,none⟩) N cn),.v (.slice pe pn pc),.v (.int .i64 fu),.v (.slice pk kn kc),.sb dw,.v (.int .i64 wr),.v (.int .i64 sy),.v (.int .i64 st)])]) Tryz_ok Tryz.func37 (by kernel_rfl) rfl rfl hk (by simp) (by simpa using block_lt hk) rfl (by simp) h
theorem dWrite_vc{d bd bn N cd cn:Nat}{pe:Option Addr}{pn pc:Nat}{fu:Int}{pk:Option Addr}{kn kc:Nat}{dw:Bool}{wr sy st:Int}{i:Int}{ba:Option Addr}{bl bc:Nat}{w:World}{R:Ending→World→Prop}
 (hk:Hb w d #[slice (some (Addr.mk bd 0 none)) N cd,slice (some (Addr.mk bn 0 none)) N cn,slice pe pn pc,int i64 fu,slice pk kn kc,Value.bool dw,int i64 wr,int i64 sy,int i64 st] 99)
 (h :
 Hb w d #[slice (some (Addr.mk bd 0 none)) N cd,slice (some (Addr.mk bn 0 none)) N cn,slice pe pn pc,int i64 fu,slice pk kn kc,Value.bool dw,int i64 wr,int i64 sy,int i64 st] 99→
 CallW Tryz.prog 62 #[pointer (some (Addr.mk d 0 none))] w fun e1 w1 =>
 ∃b1,e1=returned (Value.bool b1)∧
 KpL [] w w1∧
 ((!b1)=true→
 Hb w1 d #[slice (some (Addr.mk bd 0 none)) N cd,slice (some (Addr.mk bn 0 none)) N cn,slice pe pn pc,int i64 fu,slice pk kn kc,Value.bool dw,int i64 wr,int i64 sy,int i64 st] 99→
 R (returned (int i64 1)) w1)∧
 ((!b1)=false→
 (¬i<0→
 Hb w1 d #[slice (some (Addr.mk bd 0 none)) N cd,slice (some (Addr.mk bn 0 none)) N cn,slice pe pn pc,int i64 fu,slice pk kn kc,Value.bool dw,int i64 wr,int i64 sy,int i64 st] 99→
 CallW Tryz.prog 80 #[pointer (some (Addr.mk d 0 none))] w1 fun e2 w2 =>
 ∃n1,e2=returned (int i64 n1)∧
 KpL [] w1 w2∧
 (n1≤i→
 Hb w2 d #[slice (some (Addr.mk bd 0 none)) N cd,slice (some (Addr.mk bn 0 none)) N cn,slice pe pn pc,int i64 fu,slice pk kn kc,Value.bool dw,int i64 wr,int i64 sy,int i64 st] 99→
 R (returned (int i64 3)) w2)∧
 (¬n1≤i→
 ((↑bl:Int)≠(64:Int)→
 Hb w2 d #[slice (some (Addr.mk bd 0 none)) N cd,slice (some (Addr.mk bn 0 none)) N cn,slice pe pn pc,int i64 fu,slice pk kn kc,Value.bool dw,int i64 wr,int i64 sy,int i64 st] 99→
 R (returned (int i64 2)) w2)∧
 (¬(↑bl:Int)≠(64:Int)→
 (dw=true→
 Hb w2 d #[slice (some (Addr.mk bd 0 none)) N cd,slice (some (Addr.mk bn 0 none)) N cn,slice pe pn pc,int i64 fu,slice pk kn kc,Value.bool dw,int i64 wr,int i64 sy,int i64 st] 99→
 R (returned (int i64 17)) w2)∧
 (dw=false→
 ∀w3,KpL [d] w2 w3→
 Hb w3 d #[slice (some (Addr.mk bd 0 none)) N cd,slice (some (Addr.mk bn 0 none)) N cn,slice pe pn pc,int i64 fu,slice pk kn kc,Value.bool dw,int i64 (i64.wrap (wr+1)),int i64 sy,int i64 st] 99→
 Ev Tryz.prog (Instr.arrayAt 91 (slice ba bl bc)) w3 fun y1 w4 =>
 ∃d1,y1=pointer (some d1)∧
 ∃l1,KpL l1 w3 w4∧
 NotIn d l1∧
 (Hb w4 d #[slice (some (Addr.mk bd 0 none)) N cd,slice (some (Addr.mk bn 0 none)) N cn,slice pe pn pc,int i64 fu,slice pk kn kc,Value.bool dw,int i64 (i64.wrap (wr+1)),int i64 sy,int i64 st] 99→
 (LdA w4 (Addr.mk d (0+2) none) [slice pe pn pc]∧
 True)∧
 (Hb w4 d #[slice (some (Addr.mk bd 0 none)) N cd,slice (some (Addr.mk bn 0 none)) N cn,slice pe pn pc,int i64 fu,slice pk kn kc,Value.bool dw,int i64 (i64.wrap (wr+1)),int i64 sy,int i64 st] 99→
 ∃(l2:List Value),l2.length=64∧
 LdA w4 d1 l2∧
 ∃(l3:List Value),l3.length=65∧
 Pv Tryz.prog (Instr.build 175 #[(0,int i64 i),(1,agg l2.toArray)]) (agg l3.toArray)∧
 (Hb w4 d #[slice (some (Addr.mk bd 0 none)) N cd,slice (some (Addr.mk bn 0 none)) N cn,slice pe pn pc,int i64 fu,slice pk kn kc,Value.bool dw,int i64 (i64.wrap (wr+1)),int i64 sy,int i64 st] 99→
 Ev Tryz.prog (Instr.buildSlice 97 1 #[(0,agg l3.toArray)]) w4 fun y2 w5 =>
 ∃a1 k1 k2,y2=slice a1 k1 k2∧
 ∃l4,KpL l4 w4 w5∧
 NotIn d l4∧
 (Hb w5 d #[slice (some (Addr.mk bd 0 none)) N cd,slice (some (Addr.mk bn 0 none)) N cn,slice pe pn pc,int i64 fu,slice pk kn kc,Value.bool dw,int i64 (i64.wrap (wr+1)),int i64 sy,int i64 st] 99→
 Ev Tryz.prog (Builtin.append_ #[97,97] 97 #[slice pe pn pc,slice a1 k1 k2]) w5 fun y3 w6 =>
 ∃a2 k3 k4,y3=slice a2 k3 k4∧
 ∃l5,KpL l5 w5 w6∧
 NotIn d l5∧
 ∀w7,KpL [d] w6 w7→
 Hb w7 d #[slice (some (Addr.mk bd 0 none)) N cd,slice (some (Addr.mk bn 0 none)) N cn,slice a2 k3 k4,int i64 fu,slice pk kn kc,Value.bool dw,int i64 (i64.wrap (wr+1)),int i64 sy,int i64 st] 99→
 CallW Tryz.prog 92 #[slice (some (Addr.mk bn 0 none)) N cn,int i64 i] w7 fun e3 w8 =>
 ∃a3 k5 k6,e3=returned (slice a3 k5 k6)∧
 KpL [] w7 w8∧
 (Hb w8 d #[slice (some (Addr.mk bd 0 none)) N cd,slice (some (Addr.mk bn 0 none)) N cn,slice a2 k3 k4,int i64 fu,slice pk kn kc,Value.bool dw,int i64 (i64.wrap (wr+1)),int i64 sy,int i64 st] 99→
 Ev Tryz.prog (Builtin.copy_ #[33,33] 3 #[slice a3 k5 k6,slice ba bl bc]) w8 fun y4 w9 =>
 ∃n2,y4=int i64 n2∧
 ∃l6,KpL l6 w8 w9∧
 NotIn d l6∧
 (Hb w9 d #[slice (some (Addr.mk bd 0 none)) N cd,slice (some (Addr.mk bn 0 none)) N cn,slice a2 k3 k4,int i64 fu,slice pk kn kc,Value.bool dw,int i64 (i64.wrap (wr+1)),int i64 sy,int i64 st] 99→
 CallW Tryz.prog 93 #[pointer (some (Addr.mk d 0 none))] w9 fun e4 w10 =>
 ∃b2,e4=returned (Value.bool b2)∧
 ∃l7,KpL l7 w9 w10∧
 (b2=true→
 R (returned (int i64 17)) w10)∧
 (b2=false→
 R (returned (int i64 0)) w10)))))))))))∧
 (i<0→
 Hb w1 d #[slice (some (Addr.mk bd 0 none)) N cd,slice (some (Addr.mk bn 0 none)) N cn,slice pe pn pc,int i64 fu,slice pk kn kc,Value.bool dw,int i64 wr,int i64 sy,int i64 st] 99→
 R (returned (int i64 3)) w1))):Calls Tryz.prog 32 #[pointer (some (Addr.mk d 0 none)),int i64 i,slice ba bl bc] w R :=
 fncK (an:={ muts:=[93],all:=true,wrap:=true }) (args:=[.a (.c (.loc 0 0)),.a (.c (.v (.int .i64 i))),.a (.c (.v (.slice ba bl bc)))]) (rho:=[d]) (hp:=[(0,99,[.v (.slice (some ⟨bd,0,none⟩) N cd),.v (.slice (some ⟨bn,0,none⟩) N cn),.v (.slice pe pn pc),.v (.int .i64 fu),.v (.slice pk kn kc),.sb dw,.v (.int .i64 wr),.v (.int .i64 sy),.v (.int .i64 st)])]) Tryz_ok Tryz.func32 (by kernel_rfl) rfl rfl hk (by simp) (by simpa using block_lt hk) rfl (by simp) h
theorem dFall_vc{d bd bn N cd cn:Nat}{pe:Option Addr}{pn pc:Nat}{fu:Int}{pk:Option Addr}{kn kc:Nat}{dw:Bool}{wr sy st:Int}{ba:Option Addr}{bl bc:Nat}{w:World}{R:Ending→World→Prop}
 (hk:Hb w d #[slice (some (Addr.mk bd 0 none)) N cd,slice (some (Addr.mk bn 0 none)) N cn,slice pe pn pc,int i64 fu,slice pk kn kc,Value.bool dw,int i64 wr,int i64 sy,int i64 st] 99)
 (h :
 ∃(P1:List Value→World→Prop) (P2:List Value→World→Nat),(Hb w d #[slice (some (Addr.mk bd 0 none)) N cd,slice (some (Addr.mk bn 0 none)) N cn,slice pe pn pc,int i64 fu,slice pk kn kc,Value.bool dw,int i64 wr,int i64 sy,int i64 st] 99→
 P1 [int i64 0] w)∧
 ∀n1 w1,P1 [int i64 n1] w1→
 (n1<(↑pn:Int)→
 ∃d1,pe=some d1∧
 0≤n1∧
 n1<(↑pn:Int)∧
 (Hb w1 d #[slice (some (Addr.mk bd 0 none)) N cd,slice (some (Addr.mk bn 0 none)) N cn,slice pe pn pc,int i64 fu,slice pk kn kc,Value.bool dw,int i64 wr,int i64 sy,int i64 st] 99→
 ∃(l1:List Value),l1.length=65∧
 LdA w1 (d1.add (n1.toNat*65)) l1∧
 (Hb w1 d #[slice (some (Addr.mk bd 0 none)) N cd,slice (some (Addr.mk bn 0 none)) N cn,slice pe pn pc,int i64 fu,slice pk kn kc,Value.bool dw,int i64 wr,int i64 sy,int i64 st] 99→
 Ev Tryz.prog (Instr.alloc 175 true (tuple #[])) w1 fun y1 w2 =>
 ∃d2,y1=pointer (some d2)∧
 ∃l2,KpL l2 w1 w2∧
 NotIn d l2∧
 l1.length=65∧
 (∀y2,y2∈l1→
 oneC y2=true)∧
 (Hb w2 d #[slice (some (Addr.mk bd 0 none)) N cd,slice (some (Addr.mk bn 0 none)) N cn,slice pe pn pc,int i64 fu,slice pk kn kc,Value.bool dw,int i64 wr,int i64 sy,int i64 st] 99→
 (∃(l3:List Value),LdA w2 d2 l3∧
 l3.length=l1.length)∧
 NotFrozen w2 d2 l1.length∧
 NotIn d [d2.block]∧
 ∀w3,w3=stA w2 d2 l1 0→
 ∃(P3:List Value→World→Prop),(Hb w3 d #[slice (some (Addr.mk bd 0 none)) N cd,slice (some (Addr.mk bn 0 none)) N cn,slice pe pn pc,int i64 fu,slice pk kn kc,Value.bool dw,int i64 wr,int i64 sy,int i64 st] 99→
 ((0:Int)<(↑bl:Int)→
 (↑bl:Int)≠(0:Int)∧
 ∃d3,ba=some d3∧
 (0:Int)≤n1.tmod (↑bl:Int)∧
 n1.tmod (↑bl:Int)<(↑bl:Int)∧
 (Hb w3 d #[slice (some (Addr.mk bd 0 none)) N cd,slice (some (Addr.mk bn 0 none)) N cn,slice pe pn pc,int i64 fu,slice pk kn kc,Value.bool dw,int i64 wr,int i64 sy,int i64 st] 99→
 ∃n2,LdA w3 (d3.add ((n1.tmod (↑bl:Int)).toNat*(1:Nat))) [int u8 n2]∧
 InI i64 n2∧
 (Hb w3 d #[slice (some (Addr.mk bd 0 none)) N cd,slice (some (Addr.mk bn 0 none)) N cn,slice pe pn pc,int i64 fu,slice pk kn kc,Value.bool dw,int i64 wr,int i64 sy,int i64 st] 99→
 P3 [int i64 n2] w3)))∧
 (¬(0:Int)<(↑bl:Int)→
 Hb w3 d #[slice (some (Addr.mk bd 0 none)) N cd,slice (some (Addr.mk bn 0 none)) N cn,slice pe pn pc,int i64 fu,slice pk kn kc,Value.bool dw,int i64 wr,int i64 sy,int i64 st] 99→
 P3 [int i64 0] w3))∧
 ∀n3 w4,P3 [int i64 n3] w4→
 (65:Int)≠(0:Int)∧
 ∃(P4:List Value→World→Prop),(Hb w4 d #[slice (some (Addr.mk bd 0 none)) N cd,slice (some (Addr.mk bn 0 none)) N cn,slice pe pn pc,int i64 fu,slice pk kn kc,Value.bool dw,int i64 wr,int i64 sy,int i64 st] 99→
 (128≤n3→
 InI i64 (64 - n3.tmod 65)∧
 (Hb w4 d #[slice (some (Addr.mk bd 0 none)) N cd,slice (some (Addr.mk bn 0 none)) N cn,slice pe pn pc,int i64 fu,slice pk kn kc,Value.bool dw,int i64 wr,int i64 sy,int i64 st] 99→
 P4 [int i64 (64 - n3.tmod 65),int i64 64] w4))∧
 (¬128≤n3→
 Hb w4 d #[slice (some (Addr.mk bd 0 none)) N cd,slice (some (Addr.mk bn 0 none)) N cn,slice pe pn pc,int i64 fu,slice pk kn kc,Value.bool dw,int i64 wr,int i64 sy,int i64 st] 99→
 P4 [int i64 0,int i64 (n3.tmod 65)] w4))∧
 ∀n4 n5 w5,P4 [int i64 n4,int i64 n5] w5→
 ∃n6,LdA w5 (d2.add 0) [int i64 n6]∧
 ∃a1 k1 k2,Pv Tryz.prog (Instr.sliceAt 91 (pointer (some (d2.add 1))) (some (int i64 n4)) (some (int i64 n5)) none) (slice a1 k1 k2)∧
 ∀w6,KpL [] w5 w6→
 Hb w6 d #[slice (some (Addr.mk bd 0 none)) N cd,slice (some (Addr.mk bn 0 none)) N cn,slice pe pn pc,int i64 fu,slice pk kn kc,Value.bool dw,int i64 wr,int i64 sy,int i64 st] 99→
 CallW Tryz.prog 92 #[slice (some (Addr.mk bd 0 none)) N cd,int i64 n6] w6 fun e1 w7 =>
 ∃a2 k3 k4,e1=returned (slice a2 k3 k4)∧
 KpL [] w6 w7∧
 ∃a3 k5 k6,Pv Tryz.prog (Instr.sliceAt 33 (slice a2 k3 k4) (some (int i64 n4)) (some (int i64 n5)) none) (slice a3 k5 k6)∧
 (Hb w7 d #[slice (some (Addr.mk bd 0 none)) N cd,slice (some (Addr.mk bn 0 none)) N cn,slice pe pn pc,int i64 fu,slice pk kn kc,Value.bool dw,int i64 wr,int i64 sy,int i64 st] 99→
 Ev Tryz.prog (Builtin.copy_ #[33,33] 3 #[slice a3 k5 k6,slice a1 k1 k2]) w7 fun y3 w8 =>
 ∃n7,y3=int i64 n7∧
 ∃l4,KpL l4 w7 w8∧
 NotIn d l4∧
 InI i64 (n1+1)∧
 (Hb w8 d #[slice (some (Addr.mk bd 0 none)) N cd,slice (some (Addr.mk bn 0 none)) N cn,slice pe pn pc,int i64 fu,slice pk kn kc,Value.bool dw,int i64 wr,int i64 sy,int i64 st] 99→
 P1 [int i64 (n1+1)] w8∧
 P2 [int i64 (n1+1)] w8<P2 [int i64 n1] w1))))))∧
 (¬n1<(↑pn:Int)→
 ∀w9,KpL [d,d,d,d] w1 w9→
 Hb w9 d #[slice (some (Addr.mk bd 0 none)) N cd,slice (some (Addr.mk bn 0 none)) N cn,slice none 0 0,int i64 (-1),slice none 0 0,Value.bool true,int i64 wr,int i64 sy,int i64 st] 99→
 Ev Tryz.prog (Builtin.copy_ #[33,33] 3 #[slice (some (Addr.mk bn 0 none)) N cn,slice (some (Addr.mk bd 0 none)) N cd]) w9 fun y4 w10 =>
 ∃n8,y4=int i64 n8∧
 ∃l5,KpL l5 w9 w10∧
 NotIn d l5∧
 (Hb w10 d #[slice (some (Addr.mk bd 0 none)) N cd,slice (some (Addr.mk bn 0 none)) N cn,slice none 0 0,int i64 (-1),slice none 0 0,Value.bool true,int i64 wr,int i64 sy,int i64 st] 99→
 R (returned (tuple #[])) w10))):Calls Tryz.prog 94 #[pointer (some (Addr.mk d 0 none)),slice ba bl bc] w R :=
 fncK (an:={ loops:=[⟨1,[14],[4,5,6,7,8,15,16,17,18,19,20,21,22,23,24,25,26,27,28,29,30,31,32,33,34,35,36,37,38,39,40,41,42,43,44,45,46,47,48,49,50,51],[]⟩],cuts:=[⟨9,[7,8],[32,33,34,35],[]⟩,⟨6,[6],[19,20,21,22,23,24,25,26,27,28,29],[]⟩],all:=true }) (args:=[.a (.c (.loc 0 0)),.a (.c (.v (.slice ba bl bc)))]) (rho:=[d]) (hp:=[(0,99,[.v (.slice (some ⟨bd,0,none⟩) N cd),.v (.slice (some ⟨bn,0,none⟩) N cn),.v (.slice pe pn pc),.v (.int .i64 fu),.v (.slice pk kn kc),.sb dw,.v (.int .i64 wr),.v (.int .i64 sy),.v (.int .i64 st)])]) Tryz_ok Tryz.func94 (by kernel_rfl) rfl rfl hk (by simp) (by simpa using block_lt hk) rfl (by simp) h
theorem dFuse_vc{d bd bn N cd cn:Nat}{pe:Option Addr}{pn pc:Nat}{fu:Int}{pk:Option Addr}{kn kc:Nat}{dw:Bool}{wr sy st:Int}{i:Int}{ba:Option Addr}{bl bc:Nat}{w:World}{R:Ending→World→Prop}
 (hk:Hb w d #[slice (some (Addr.mk bd 0 none)) N cd,slice (some (Addr.mk bn 0 none)) N cn,slice pe pn pc,int i64 fu,slice pk kn kc,Value.bool dw,int i64 wr,int i64 sy,int i64 st] 99)
 (h :
 Hb w d #[slice (some (Addr.mk bd 0 none)) N cd,slice (some (Addr.mk bn 0 none)) N cn,slice pe pn pc,int i64 fu,slice pk kn kc,Value.bool dw,int i64 wr,int i64 sy,int i64 st] 99→
 CallW Tryz.prog 62 #[pointer (some (Addr.mk d 0 none))] w fun e1 w1 =>
 ∃b1,e1=returned (Value.bool b1)∧
 KpL [] w w1∧
 ((!b1)=true→
 Hb w1 d #[slice (some (Addr.mk bd 0 none)) N cd,slice (some (Addr.mk bn 0 none)) N cn,slice pe pn pc,int i64 fu,slice pk kn kc,Value.bool dw,int i64 wr,int i64 sy,int i64 st] 99→
 R (returned (int i64 1)) w1)∧
 ((!b1)=false→
 (i<0→
 Hb w1 d #[slice (some (Addr.mk bd 0 none)) N cd,slice (some (Addr.mk bn 0 none)) N cn,slice pe pn pc,int i64 fu,slice pk kn kc,Value.bool dw,int i64 wr,int i64 sy,int i64 st] 99→
 R (returned (int i64 3)) w1)∧
 (¬i<0→
 ((256:Int)<(↑bl:Int)→
 Hb w1 d #[slice (some (Addr.mk bd 0 none)) N cd,slice (some (Addr.mk bn 0 none)) N cn,slice pe pn pc,int i64 fu,slice pk kn kc,Value.bool dw,int i64 wr,int i64 sy,int i64 st] 99→
 R (returned (int i64 8)) w1)∧
 (¬(256:Int)<(↑bl:Int)→
 (dw=true→
 Hb w1 d #[slice (some (Addr.mk bd 0 none)) N cd,slice (some (Addr.mk bn 0 none)) N cn,slice pe pn pc,int i64 fu,slice pk kn kc,Value.bool dw,int i64 wr,int i64 sy,int i64 st] 99→
 R (returned (int i64 17)) w1)∧
 (dw=false→
 Hb w1 d #[slice (some (Addr.mk bd 0 none)) N cd,slice (some (Addr.mk bn 0 none)) N cn,slice pe pn pc,int i64 fu,slice pk kn kc,Value.bool dw,int i64 wr,int i64 sy,int i64 st] 99→
 CallW Tryz.prog 95 #[slice ba bl bc] w1 fun e2 w2 =>
 ∃a1 k1 k2,e2=returned (slice a1 k1 k2)∧
 KpL [] w1 w2∧
 ∀w3,KpL [d,d] w2 w3→
 Hb w3 d #[slice (some (Addr.mk bd 0 none)) N cd,slice (some (Addr.mk bn 0 none)) N cn,slice pe pn pc,int i64 i,slice a1 k1 k2,Value.bool dw,int i64 wr,int i64 sy,int i64 st] 99→
 R (returned (int i64 0)) w3))))):Calls Tryz.prog 40 #[pointer (some (Addr.mk d 0 none)),int i64 i,slice ba bl bc] w R :=
 fncK (an:={ all:=true }) (args:=[.a (.c (.loc 0 0)),.a (.c (.v (.int .i64 i))),.a (.c (.v (.slice ba bl bc)))]) (rho:=[d]) (hp:=[(0,99,[.v (.slice (some ⟨bd,0,none⟩) N cd),.v (.slice (some ⟨bn,0,none⟩) N cn),.v (.slice pe pn pc),.v (.int .i64 fu),.v (.slice pk kn kc),.sb dw,.v (.int .i64 wr),.v (.int .i64 sy),.v (.int .i64 st)])]) Tryz_ok Tryz.func40 (by kernel_rfl) rfl rfl hk (by simp) (by simpa using block_lt hk) rfl (by simp) h
theorem dCrash_vc{d bd bn N cd cn:Nat}{pe:Option Addr}{pn pc:Nat}{fu:Int}{pk:Option Addr}{kn kc:Nat}{dw:Bool}{wr sy st:Int}{ba:Option Addr}{bl bc:Nat}{w:World}{R:Ending→World→Prop}
 (hk:Hb w d #[slice (some (Addr.mk bd 0 none)) N cd,slice (some (Addr.mk bn 0 none)) N cn,slice pe pn pc,int i64 fu,slice pk kn kc,Value.bool dw,int i64 wr,int i64 sy,int i64 st] 99)
 (h :
 Hb w d #[slice (some (Addr.mk bd 0 none)) N cd,slice (some (Addr.mk bn 0 none)) N cn,slice pe pn pc,int i64 fu,slice pk kn kc,Value.bool dw,int i64 wr,int i64 sy,int i64 st] 99→
 CallW Tryz.prog 62 #[pointer (some (Addr.mk d 0 none))] w fun e1 w1 =>
 ∃b1,e1=returned (Value.bool b1)∧
 KpL [] w w1∧
 ((!b1)=true→
 R (returned (int i64 1)) w1)∧
 ((!b1)=false→
 ((256:Int)<(↑bl:Int)→
 R (returned (int i64 8)) w1)∧
 (¬(256:Int)<(↑bl:Int)→
 (dw=true→
 R (returned (int i64 17)) w1)∧
 (dw=false→
 Hb w1 d #[slice (some (Addr.mk bd 0 none)) N cd,slice (some (Addr.mk bn 0 none)) N cn,slice pe pn pc,int i64 fu,slice pk kn kc,Value.bool dw,int i64 wr,int i64 sy,int i64 st] 99→
 CallW Tryz.prog 94 #[pointer (some (Addr.mk d 0 none)),slice ba bl bc] w1 fun e2 w2 =>
 e2=returned (tuple #[])∧
 ∃l1,KpL l1 w1 w2∧
 R (returned (int i64 0)) w2)))):Calls Tryz.prog 33 #[pointer (some (Addr.mk d 0 none)),slice ba bl bc] w R :=
 fncK (an:={ muts:=[94] }) (args:=[.a (.c (.loc 0 0)),.a (.c (.v (.slice ba bl bc)))]) (rho:=[d]) (hp:=[(0,99,[.v (.slice (some ⟨bd,0,none⟩) N cd),.v (.slice (some ⟨bn,0,none⟩) N cn),.v (.slice pe pn pc),.v (.int .i64 fu),.v (.slice pk kn kc),.sb dw,.v (.int .i64 wr),.v (.int .i64 sy),.v (.int .i64 st)])]) Tryz_ok Tryz.func33 (by kernel_rfl) rfl rfl hk (by simp) (by simpa using block_lt hk) rfl (by simp) h
theorem newDisk_vc{n:Int}{w:World}{R:Ending→World→Prop}
 (h :
 (¬n<64→
 (2048<n→
 R (returned (tuple #[pointer none,int i64 3])) w)∧
 (¬2048<n→
 InI i64 (n*64)∧
 (∀w1,KpL [] w w1→
 Ev Tryz.prog (Instr.makeSlice 33 (int i64 (n*64)) (int i64 (n*64))) w1 fun y1 w2 =>
 ∃a1 k1 k2,y1=slice a1 k1 k2∧
 ∃l1,KpL l1 w1 w2∧
 Ev Tryz.prog (Instr.makeSlice 33 (int i64 (n*64)) (int i64 (n*64))) w2 fun y2 w3 =>
 ∃a2 k3 k4,y2=slice a2 k3 k4∧
 ∃l2,KpL l2 w2 w3∧
 ∀k5,w3.heap.size≤k5→
 ∀w4,KpL [] w3 w4→
 Hb w4 k5 #[slice a1 k1 k2,slice a2 k3 k4,slice none 0 0,int i64 (-1),slice none 0 0,Value.bool false,int i64 0,int i64 0,int i64 0] 99→
 R (returned (tuple #[pointer (some (Addr.mk k5 0 none)),int i64 0])) w4)∧
 ∀w5,KpL [] w w5→
 Ev Tryz.prog (Instr.makeSlice 33 (int i64 (n*64)) (int i64 (n*64))) w5 fun y3 w6 =>
 ∃a3 k6 k7,y3=slice a3 k6 k7∧
 ∃l3,KpL l3 w5 w6∧
 Ev Tryz.prog (Instr.makeSlice 33 (int i64 (n*64)) (int i64 (n*64))) w6 fun y4 w7 =>
 ∃a4 k8 k9,y4=slice a4 k8 k9∧
 ∃l4,KpL l4 w6 w7∧
 ∀k10,w7.heap.size≤k10→
 ∀w8,KpL [] w7 w8→
 Hb w8 k10 #[slice a4 k8 k9,slice a3 k6 k7,slice none 0 0,int i64 (-1),slice none 0 0,Value.bool false,int i64 0,int i64 0,int i64 0] 99→
 R (returned (tuple #[pointer (some (Addr.mk k10 0 none)),int i64 0])) w8))∧
 (n<64→
 R (returned (tuple #[pointer none,int i64 3])) w)):Calls Tryz.prog 19 #[int i64 n] w R :=
 fnc0 (an:={ all:=true }) (args:=[.a (.c (.v (.int .i64 n)))]) Tryz_ok Tryz.func19 (by kernel_rfl) rfl rfl h
theorem sector_vc{a:Option Addr}{n c:Nat}{i:Int}{w:World}{R:Ending→World→Prop}
 (h :
 InI i64 (i*64)∧
 InI i64 (i+1)∧
 InI i64 ((i+1)*64)∧
 ∃a1 k1 k2,Pv Tryz.prog (Instr.sliceAt 33 (slice a n c) (some (int i64 (i*64))) (some (int i64 ((i+1)*64))) none) (slice a1 k1 k2)∧
 R (returned (slice a1 k1 k2)) w):Calls Tryz.prog 92 #[slice a n c,int i64 i] w R :=
 fnc0 (an:={}) (args:=[.a (.c (.v (.slice a n c))),.a (.c (.v (.int .i64 i)))]) Tryz_ok Tryz.func92 (by kernel_rfl) rfl rfl h
end Go.Vc
namespace Go.Vc
open Go Go.Proofs
variable {α:Type}
def Byts(l:List Int):Prop:=∀x∈l,InI .u8 x
theorem Byts.take{l:List Int}(h:Byts l)(n:Nat):Byts (l.take n):=fun x hx=>h x (List.mem_of_mem_take hx)
theorem Byts.drop{l:List Int}(h:Byts l)(n:Nat):Byts (l.drop n):=fun x hx=>h x (List.mem_of_mem_drop hx)
theorem Byts.app{l m:List Int}(h:Byts l)(k:Byts m):Byts (l++m):=fun x hx=>(List.mem_append.1 hx).elim (h x) (k x)
structure Own (F:List Nat) (w:World) (F':List Nat) (w':World):Prop where
 kp:KpL F w w'
 new:∀b∈F',b∈F∨w.heap.size≤b
theorem Own.refl(F:List Nat)(w:World):Own F w F w:=⟨KpL.refl _ _,fun _ h=>.inl h⟩
theorem Own.trans{F F' F'':List Nat}{w w' w'':World}(h:Own F w F' w')(k:Own F' w' F'' w''):Own F w F'' w'' :=
 ⟨h.kp.more k.kp h.new,fun b hb=>(k.new b hb).elim (h.new b) fun hge=>.inr (Nat.le_trans h.kp.size hge)⟩
theorem Own.kp0{F F':List Nat}{w w' w'':World}(h:Own F w F' w')(k:KpL [] w' w''):Own F w F' w'':=⟨h.kp.trans (k.mono (by simp)),h.new⟩
theorem Own.of0{F:List Nat}{w w':World}(k:KpL [] w w'):Own F w F w':=(Own.refl F w).kp0 k
theorem Own.data{t:Ty α}{F F' N:List Nat}{w w':World}(h:Own F w F' w'){x:α}{cs:List Value}(hR:R t (F++N) w x cs):R t (F'++N) w' x cs :=
 t.mono hR fun b hb=>⟨⟨Nat.lt_of_lt_of_le hb.1 h.kp.size,fun hm=>by
  rcases List.mem_append.1 hm with hm|hm
  ·rcases h.new b hm with hm|hm
   ·exact hb.2 (List.mem_append_left _ hm)
   ·exact absurd hb.1 (by omega)
  ·exact hb.2 (List.mem_append_right _ hm)⟩,h.kp.blk b hb.1 fun hm=>hb.2 (List.mem_append_left _ hm)⟩
theorem R.step{t:Ty α}{M M' N:List Nat}{w w':World}{x:α}{cs:List Value}(h:R t M w x cs)(k:KpL N w w')(hs:∀b∈N,b∈M)(hn:∀b∈M',b∈M∨w.heap.size≤b):R t M' w' x cs :=
 t.mono h fun b hb=>⟨⟨Nat.lt_of_lt_of_le hb.1 k.size,fun hm=>by
  rcases hn b hm with hm|hm
  ·exact hb.2 hm
  ·have:=hb.1;omega⟩,k.blk b hb.1 fun hm=>hb.2 (hs b hm)⟩
theorem Acc.step{e:Ty α}{M M' N:List Nat}{w w':World}{xs:List α}{a:Option Addr}{n c:Nat}(h:Acc e M w xs a n c)(k:KpL N w w')(hs:∀b∈N,b∈M)(hn:∀b∈M',(b∈M∨w.heap.size≤b)∧b<w'.heap.size):Acc e M' w' xs a n c:=by
 refine⟨h.len,h.cap,fun b hb=>(hn b hb).2,h.nil,fun ad had=>?_⟩
 obtain⟨b,arr,T,h1,h2,h3,h4,h5⟩:=h.at_ ad had
 have hlt:=block_lt h3
 refine⟨b,arr,T,h1,fun hm=>?_,by rw[k.blk b hlt (fun hm=>h2 (hs b hm))];exact h3,h4,h5.mono fun x hx=>⟨⟨Nat.lt_of_lt_of_le hx.1 k.size,fun hm=>?_⟩,k.blk x hx.1 fun hm=>hx.2 (List.mem_cons_of_mem _ (hs x hm))⟩⟩
 ·rcases (hn b hm).1 with hm|hm
  ·exact h2 hm
  ·omega
 ·rcases List.mem_cons.1 hm with rfl|hm
  ·exact hx.2 (by simp)
  ·rcases (hn x hm).1 with hm|hm
   ·exact hx.2 (List.mem_cons_of_mem _ hm)
   ·have:=hx.1;omega
def tWr:Ty (Int×List Int):=tPure 65 (fun x=>.int .i64 x.1::x.2.map (Value.int .u8)) (fun x=>InI .i64 x.1∧x.2.length=64∧Byts x.2) (fun x h=>by simp[h.2.1]) (by
 intro x v hv
 simp only[List.mem_cons,List.mem_map]at hv
 rcases hv with rfl|⟨a,_,rfl⟩<;>rfl)
theorem R.wr{M:List Nat}{w:World}{v:Int×List Int}{cs:List Value}(h:R tWr M w v cs):cs=.int .i64 v.1::v.2.map (Value.int .u8)∧InI .i64 v.1∧v.2.length=64∧Byts v.2:=h
structure Dk where
 dur:List Int
 now:List Int
 pend:List (Int×List Int)
 fuse:Int
 picks:List Int
 down:Bool
 st:Int
 n:Nat
structure Dk.ok (k:Dk):Prop where
 secs:∃s,k.now.length=64*s∧1≤s∧s≤2048∧s=k.n
 len:k.dur.length=k.now.length
 dby:Byts k.dur
 nby:Byts k.now
 fin:InI .i64 k.fuse
 sin:InI .i64 k.st
 pend:∀p∈k.pend,0≤p.1∧64*p.1+64≤k.now.length
structure DkIn (M:List Nat) (w:World) (d:Nat) (k:Dk) (bd bn:Nat) (rd rn:List Value) (pe:Option Addr) (pn pc:Nat) (pk:Option Addr) (kn kc:Nat) (wr sy:Int):Prop where
 hd:w.heap[d]?=some (.cells #[.slice (some ⟨bd,0,none⟩) k.now.length (k.now.length+rd.length),.slice (some ⟨bn,0,none⟩) k.now.length (k.now.length+rn.length),.slice pe pn pc,.int .i64 k.fuse,.slice pk kn kc,.bool k.down,.int .i64 wr,.int .i64 sy,.int .i64 k.st] 99 (0,0))
 hbd:w.heap[bd]?=some (.cells (k.dur.map (Value.int .u8)++rd).toArray 5 (0,0))
 hbn:w.heap[bn]?=some (.cells (k.now.map (Value.int .u8)++rn).toArray 5 (0,0))
 pend:Acc tWr (d::bd::bn::M) w k.pend pe pn pc
 picks:R (tSl (tI .u8)) (d::bd::bn::(blkL pe++M)) w k.picks [.slice pk kn kc]
 d1:d≠bd
 d2:d≠bn
 d3:bd≠bn
 m1:d∉M
 m2:bd∉M
 m3:bn∉M
 ok:k.ok
def DkAt(M:List Nat)(w:World)(d:Nat)(k:Dk)(F:List Nat):Prop :=
 ∃bd bn rd rn pe pn pc pk kn kc wr sy,DkIn M w d k bd bn rd rn pe pn pc pk kn kc wr sy∧F=d::bd::bn::blkL pe
theorem DkIn.step{M M' N:List Nat}{w w':World}{d:Nat}{k:Dk}{bd bn:Nat}{rd rn:List Value}{pe:Option Addr}{pn pc:Nat}{pk:Option Addr}{kn kc:Nat}{wr sy:Int}(h:DkIn M w d k bd bn rd rn pe pn pc pk kn kc wr sy)
 (kp:KpL N w w')(hs:∀b∈N,b∈M)(hn:∀b∈M',(b∈M∨w.heap.size≤b)∧b<w'.heap.size):DkIn M' w' d k bd bn rd rn pe pn pc pk kn kc wr sy:=by
 have l1:=block_lt h.hd
 have l2:=block_lt h.hbd
 have l3:=block_lt h.hbn
 have hout:∀x,x<w.heap.size→x∉M→x∉M':=fun x hx hxM hm=>(hn x hm).1.elim hxM (fun hge=>by omega)
 have hkeep:∀x,x<w.heap.size→x∉M→w'.heap[x]?=w.heap[x]?:=fun x hx hxM=>kp.blk x hx fun hm=>hxM (hs x hm)
 refine⟨by rw[hkeep d l1 h.m1];exact h.hd,by rw[hkeep bd l2 h.m2];exact h.hbd,by rw[hkeep bn l3 h.m3];exact h.hbn,h.pend.step kp (fun b hb=>by simp[hs b hb]) ?_,h.picks.step kp (fun b hb=>by simp[hs b hb]) ?_,
  h.d1,h.d2,h.d3,hout d l1 h.m1,hout bd l2 h.m2,hout bn l3 h.m3,h.ok⟩
 ·intro b hb
  simp only[List.mem_cons]at hb
  have hsz:=kp.size
  rcases hb with rfl|rfl|rfl|hb
  ·exact⟨.inl (by simp),by omega⟩
  ·exact⟨.inl (by simp),by omega⟩
  ·exact⟨.inl (by simp),by omega⟩
  ·exact⟨(hn b hb).1.imp (fun h=>by simp[h]) id,(hn b hb).2⟩
 ·intro b hb
  simp only[List.mem_cons,List.mem_append]at hb
  rcases hb with rfl|rfl|rfl|hb|hb
  ·exact .inl (by simp)
  ·exact .inl (by simp)
  ·exact .inl (by simp)
  ·exact .inl (by simp[hb])
  ·exact(hn b hb).1.imp (fun h=>by simp[h]) id
theorem DkIn.own_lt{M:List Nat}{w:World}{d:Nat}{k:Dk}{bd bn:Nat}{rd rn:List Value}{pe:Option Addr}{pn pc:Nat}{pk:Option Addr}{kn kc:Nat}{wr sy:Int}(h:DkIn M w d k bd bn rd rn pe pn pc pk kn kc wr sy):
 ∀b∈d::bd::bn::blkL pe,b<w.heap.size∧b∉M:=by
 intro b hb
 simp only[List.mem_cons]at hb
 rcases hb with rfl|rfl|rfl|hb
 ·exact⟨block_lt h.hd,h.m1⟩
 ·exact⟨block_lt h.hbd,h.m2⟩
 ·exact⟨block_lt h.hbn,h.m3⟩
 ·have:=h.pend.blk_lt b hb
  exact⟨this.1,fun hm=>this.2 (by simp[hm])⟩
theorem DkAt.own_lt{M F:List Nat}{w:World}{d:Nat}{k:Dk}(h:DkAt M w d k F):∀b∈F,b<w.heap.size∧b∉M:=by
 obtain⟨_,_,_,_,_,_,_,_,_,_,_,_,h,rfl⟩:=h
 exact h.own_lt
theorem DkAt.ok{M F:List Nat}{w:World}{d:Nat}{k:Dk}(h:DkAt M w d k F):k.ok:=by
 obtain⟨_,_,_,_,_,_,_,_,_,_,_,_,h,rfl⟩:=h
 exact h.ok
theorem DkAt.step{M M' N F:List Nat}{w w':World}{d:Nat}{k:Dk}(h:DkAt M w d k F)(kp:KpL N w w')(hs:∀b∈N,b∈M)(hn:∀b∈M',(b∈M∨w.heap.size≤b)∧b<w'.heap.size):DkAt M' w' d k F:=by
 obtain⟨_,_,_,_,_,_,_,_,_,_,_,_,h,rfl⟩:=h
 exact⟨_,_,_,_,_,_,_,_,_,_,_,_,h.step kp hs hn,rfl⟩
theorem DkAt.mlt{M F:List Nat}{w:World}{d:Nat}{k:Dk}(h:DkAt M w d k F):∀b∈M,b<w.heap.size:=by
 obtain⟨_,_,_,_,_,_,_,_,_,_,_,_,h,rfl⟩:=h
 exact fun b hb=>h.pend.mlt b (by simp[hb])
theorem DkAt.kp0{M F:List Nat}{w w':World}{d:Nat}{k:Dk}(h:DkAt M w d k F)(kp:KpL [] w w'):DkAt M w' d k F :=
 h.step kp (by simp) fun b hb=>⟨.inl hb,Nat.lt_of_lt_of_le (h.mlt b hb) kp.size⟩
theorem DkIn.kp0{M:List Nat}{w w':World}{d:Nat}{k:Dk}{bd bn:Nat}{rd rn:List Value}{pe:Option Addr}{pn pc:Nat}{pk:Option Addr}{kn kc:Nat}{wr sy:Int}(h:DkIn M w d k bd bn rd rn pe pn pc pk kn kc wr sy)
 (kp:KpL [] w w'):DkIn M w' d k bd bn rd rn pe pn pc pk kn kc wr sy :=
 h.step kp (by simp) fun b hb=>⟨.inl hb,Nat.lt_of_lt_of_le (h.pend.mlt b (by simp[hb])) kp.size⟩
def Dk.secs(k:Dk):Nat:=k.n
def Dk.half(k:Dk):Nat:=(k.secs - 2) / 2
def secOf(l:List Int)(i:Nat):List Int:=(l.drop (i*64)).take 64
section
variable {M F:List Nat} {w:World} {d:Nat} {k:Dk} (h:DkAt M w d k F)
include h
theorem dIs_ok:Calls Tryz.prog 62 #[.pointer (some ⟨d,0,none⟩)] w (PureR (.bool true) w):=by
 obtain⟨bd,bn,rd,rn,pe,pn,pc,pk,kn,kc,wr,sy,h,rfl⟩:=h
 obtain⟨s,h1,h2,h3⟩:=h.ok.secs
 refine dIs_vc h.hd ⟨?_,KpL.refl _ _⟩
 rw[decide_eq_true]
 omega
theorem dSectors_ok:Calls Tryz.prog 80 #[.pointer (some ⟨d,0,none⟩)] w (PureR (.int .i64 k.secs) w):=by
 have h0:=h
 obtain⟨bd,bn,rd,rn,pe,pn,pc,pk,kn,kc,wr,sy,h,rfl⟩:=h
 obtain⟨s,h1,h2,h3⟩:=h.ok.secs
 refine dSectors_vc h.hd fun _=>⟨(dIs_ok h0).mono ?_⟩
 rintro e w1 ⟨rfl,hk⟩
 refine⟨_,rfl,hk,fun hc=>by simp at hc,fun _=>⟨by omega,?_,hk⟩⟩
 have e1:Int.tdiv (k.now.length:Int) 64=(k.secs:Int):=by
  rw[Int.tdiv_eq_ediv_of_nonneg (by omega)]
  unfold Dk.secs
  omega
 rw[e1,wrap_in (ini_i64.2 _)]
 unfold Dk.secs
 omega
theorem dHalf_ok(hs:2≤k.secs):Calls Tryz.prog 50 #[.pointer (some ⟨d,0,none⟩)] w (PureR (.int .i64 k.half) w):=by
 have h0:=h
 obtain⟨bd,bn,rd,rn,pe,pn,pc,pk,kn,kc,wr,sy,h,rfl⟩:=h
 obtain⟨s,h1,h2,h3⟩:=h.ok.secs
 have e0:k.secs=s:=by unfold Dk.secs;omega
 refine dHalf_vc h.hd fun _=>⟨(dSectors_ok h0).mono ?_⟩
 rintro e w1 ⟨rfl,hk⟩
 refine⟨_,rfl,hk,ini_i64.2 (by omega),by omega,?_,hk⟩
 have e1:Int.tdiv ((k.secs:Int) - 2) 2=(k.half:Int):=by
  rw[Int.tdiv_eq_ediv_of_nonneg (by omega)]
  unfold Dk.half
  omega
 rw[e1,wrap_in (ini_i64.2 _)]
 unfold Dk.half
 omega
end
theorem elB33:ElT Tryz.prog 33 5 1 1:=byT.el
theorem sector_ok{w:World}{a:Option Addr}{n c:Nat}{i:Nat}(h:(i+1)*64≤n)(hn:n≤c)(hc:n≤1099511627776):
 Calls Tryz.prog 92 #[.slice a n c,.int .i64 i] w (PureR (.slice (if c=i*64 then a else a.map (·.add (i*64*1))) 64 (c - i*64)) w):=by
 refine sector_vc ⟨ini_i64.2 (by omega),ini_i64.2 (by omega),ini_i64.2 (by omega),_,_,_,pv_slice elB33 (l:=i*64) (h:=(i+1)*64) (.inl ?_) (.inl ?_) (by omega) (by omega),?_⟩
 ·congr 2<;>omega
 ·congr 2<;>omega
 ·have e1:(i+1)*64 - i*64=64:=by omega
  rw[e1]
  exact⟨rfl,KpL.refl _ _⟩
end Go.Vc
namespace Go.Vc
open Go Go.Proofs
theorem DkIn.set{M:List Nat}{w w':World}{d:Nat}{k k':Dk}{bd bn:Nat}{rd rn:List Value}{pe pe':Option Addr}{pn pc pn' pc':Nat}{pk pk':Option Addr}{kn kc kn' kc':Nat}{wr sy wr' sy':Int}{N:List Nat}
 (h:DkIn M w d k bd bn rd rn pe pn pc pk kn kc wr sy)(kp:KpL N w w')(hN:∀b∈N,b=d)
 (hd:w'.heap[d]?=some (.cells #[.slice (some ⟨bd,0,none⟩) k'.now.length (k'.now.length+rd.length),.slice (some ⟨bn,0,none⟩) k'.now.length (k'.now.length+rn.length),.slice pe' pn' pc',.int .i64 k'.fuse,.slice pk' kn' kc',.bool k'.down,.int .i64 wr',.int .i64 sy',.int .i64 k'.st] 99 (0,0)))
 (e1:k'.dur=k.dur)(e2:k'.now=k.now)(hp:Acc tWr (d::bd::bn::M) w k'.pend pe' pn' pc')(hq:R (tSl (tI .u8)) (d::bd::bn::(blkL pe'++M)) w k'.picks [.slice pk' kn' kc'])(ok:k'.ok):
 DkIn M w' d k' bd bn rd rn pe' pn' pc' pk' kn' kc' wr' sy':=by
 have n1:bd∉N:=fun hm=>h.d1 (hN _ hm).symm
 have n2:bn∉N:=fun hm=>h.d2 (hN _ hm).symm
 refine⟨hd,by rw[kp.blk bd (block_lt h.hbd) n1,e1];exact h.hbd,by rw[kp.blk bn (block_lt h.hbn) n2,e2];exact h.hbn,
  hp.kp kp (fun b hb=>by simp[hN b hb]),hq.kp kp (fun b hb=>by simp[hN b hb]),h.d1,h.d2,h.d3,h.m1,h.m2,h.m3,ok⟩
theorem DkIn.setDur{M:List Nat}{w w':World}{d:Nat}{k:Dk}{bd bn:Nat}{rd rn:List Value}{pe:Option Addr}{pn pc:Nat}{pk:Option Addr}{kn kc:Nat}{wr sy:Int}{du:List Int}
 (h:DkIn M w d k bd bn rd rn pe pn pc pk kn kc wr sy)(kp:KpL [bd] w w')(hbd:w'.heap[bd]?=some (.cells (du.map (Value.int .u8)++rd).toArray 5 (0,0)))(hl:du.length=k.dur.length)(hb:Byts du):
 DkIn M w' d { k with dur:=du } bd bn rd rn pe pn pc pk kn kc wr sy:=by
 have n1:d∉[bd]:=by simp[h.d1]
 have n2:bn∉[bd]:=by simp;exact fun e=>h.d3 e.symm
 exact⟨by rw[kp.blk d (block_lt h.hd) n1];exact h.hd,hbd,by rw[kp.blk bn (block_lt h.hbn) n2];exact h.hbn,h.pend.kp kp (by simp),h.picks.kp kp (by simp),h.d1,h.d2,h.d3,h.m1,h.m2,h.m3,
  ⟨h.ok.secs,by rw[←h.ok.len];exact hl,hb,h.ok.nby,h.ok.fin,h.ok.sin,h.ok.pend⟩⟩
theorem DkIn.setNow{M:List Nat}{w w':World}{d:Nat}{k:Dk}{bd bn:Nat}{rd rn:List Value}{pe:Option Addr}{pn pc:Nat}{pk:Option Addr}{kn kc:Nat}{wr sy:Int}{du:List Int}
 (h:DkIn M w d k bd bn rd rn pe pn pc pk kn kc wr sy)(kp:KpL [bn] w w')(hbn:w'.heap[bn]?=some (.cells (du.map (Value.int .u8)++rn).toArray 5 (0,0)))(hl:du.length=k.now.length)(hb:Byts du):
 DkIn M w' d { k with now:=du } bd bn rd rn pe pn pc pk kn kc wr sy:=by
 have n1:d∉[bn]:=by simp[h.d2]
 have n2:bd∉[bn]:=by simp[h.d3]
 have hd:=h.hd
 rw[←hl]at hd
 exact⟨by rw[kp.blk d (block_lt h.hd) n1];exact hd,by rw[kp.blk bd (block_lt h.hbd) n2];exact h.hbd,hbn,h.pend.kp kp (by simp),h.picks.kp kp (by simp),h.d1,h.d2,h.d3,h.m1,h.m2,h.m3,
  ⟨by rw[hl];exact h.ok.secs,by rw[h.ok.len];exact hl.symm,h.ok.dby,hb,h.ok.fin,h.ok.sin,by rw[hl];exact h.ok.pend⟩⟩
def tear1(dur:List Int)(at_:Nat)(b:List Int)(f t:Nat):List Int:=dur.take (at_*64+f)++((b.drop f).take (t - f)++dur.drop (at_*64+t))
def pickOf(ps:List Int)(i:Nat):Int:=if ps.length=0 then 0 else ps.getD (i%ps.length) 0
def fromTo(p:Int):Nat×Nat:=if 128≤p then (64 - (p%65).toNat,64) else (0,(p%65).toNat)
def tearAll(ps:List Int):Nat→List (Int×List Int)→List Int→List Int
 |_,[],dur=>dur
 |i,x::r,dur=>tearAll ps (i+1) r (tear1 dur x.1.toNat x.2 (fromTo (pickOf ps i)).1 (fromTo (pickOf ps i)).2)
theorem fromTo_le(p:Int)(h:0≤p):(fromTo p).1≤(fromTo p).2∧(fromTo p).2≤64:=by
 unfold fromTo
 split<;>simp<;>omega
theorem tear1_len{dur:List Int}{at_:Nat}{b:List Int}{f t:Nat}(h1:f≤t)(h2:t≤64)(hb:b.length=64)(h:at_*64+64≤dur.length):(tear1 dur at_ b f t).length=dur.length:=by
 unfold tear1
 simp
 omega
theorem tear1_by{dur:List Int}{at_:Nat}{b:List Int}{f t:Nat}(hd:Byts dur)(hb:Byts b):Byts (tear1 dur at_ b f t) :=
 (hd.take _).app (((hb.drop _).take _).app (hd.drop _))
def Dk.fall(k:Dk)(ps:List Int):Dk :=
 { dur:=tearAll ps 0 k.pend k.dur,now:=tearAll ps 0 k.pend k.dur,pend:=[],fuse:=-1,picks:=[],down:=true,st:=k.st,n:=k.n }
theorem zero175:∃z:List Value,z.length=65∧∃zv,(∀w,(zeroValue 175).run Tryz.prog w=.ok zv w)∧zv.cells=z.toArray:=by
 obtain⟨zv,h1,h2⟩:=(elB_sound (P:=Tryz.prog) (st:=97) (te:=175) (sz:=65) (by_:=72) (by kernel_rfl)).zero
 exact⟨zv.cells.toList,by simpa using h2,zv,h1,by simp⟩
theorem u91:Tryz.prog.underlying 91=some (.array 64 5):=by kernel_rfl
theorem tearAll_drop(ps:List Int)(l:List (Int×List Int))(i:Nat)(hi:i<l.length)(dur:List Int):
 tearAll ps i (l.drop i) dur=tearAll ps (i+1) (l.drop (i+1)) (tear1 dur l[i].1.toNat l[i].2 (fromTo (pickOf ps i)).1 (fromTo (pickOf ps i)).2):=by
 rw[List.drop_eq_getElem_cons hi]
 rfl
set_option maxHeartbeats 1000000 in
theorem dFall_ok{M F:List Nat}{w:World}{d:Nat}{k:Dk}(h:DkAt M w d k F){ps:List Int}{ba:Option Addr}{bl bc:Nat}(hps:R (tSl (tI .u8)) F w ps [.slice ba bl bc])(hpl:k.pend.length≤1099511627776):
 Calls Tryz.prog 94 #[.pointer (some ⟨d,0,none⟩),.slice ba bl bc] w fun e w'=>e=.returned (.tuple #[])∧∃F',DkAt M w' d (k.fall ps) F'∧Own F w F' w':=by
 obtain⟨bd,bn,rd,rn,pe,pn,pc,pk,kn,kc,wr,sy,h,rfl⟩:=h
 have hmx:maxSl=140737488355328:=rfl
 have hpn:=h.pend.len
 obtain⟨z,hz,hzv⟩:=zero175
 obtain⟨rfl,hbl1,hbl2⟩:=hps.sl_len
 refine dFall_vc h.hd ⟨fun vs w'=>∃i du,vs=[.int .i64 i]∧0≤i∧i≤k.pend.length∧DkIn M w' d { k with dur:=du } bd bn rd rn pe pn pc pk kn kc wr sy∧KpL [bd] w w'∧du.length=k.dur.length∧
  tearAll ps i.toNat (k.pend.drop i.toNat) du=tearAll ps 0 k.pend k.dur,
  fun vs _=>match vs with|[.int _ i]=>k.pend.length - i.toNat|_=>0,fun _=>⟨0,k.dur,rfl,by omega,by omega,h,KpL.refl _ _,rfl,rfl⟩,?_⟩
 rintro n1 w1 ⟨i,du,hv,hi0,hi1,hD,hK,hdl,ht⟩
 simp only[List.cons.injEq,Value.int.injEq,true_and,and_true]at hv
 subst hv
 constructor
 ·intro hlt
  have hi:n1.toNat<k.pend.length:=by omega
  have hRp:=hD.pend.done (by omega)
  obtain⟨ad,cs,rfl,hv,hld,hadM,hadl⟩:=hRp.sl_get hi
  obtain⟨rfl,hwi,hwl,hwb⟩:=hv.wr
  have hpo:=h.ok.pend _ (List.getElem_mem hi)
  simp only at hwl hwb hwi hpo
  have htd:=tearAll_drop ps k.pend n1.toNat hi du
  generalize hx:k.pend[n1.toNat]=x at *
  obtain⟨at_,b⟩:=x
  simp only at hwl hwb hwi hpo htd hld
  obtain⟨a,rfl⟩:∃a:Nat,at_=a:=⟨at_.toNat,by omega⟩
  rw[Int.toNat_natCast]at htd
  have hlen1:(Value.int .i64 (a:Int)::b.map (Value.int .u8)).length=65:=by simp[hwl]
  refine⟨_,rfl,hi0,by omega,fun _=>⟨_,hlen1,hld,fun _=>ev_alloc hzv fun w2 hb2 hk2=>⟨_,rfl,_,hk2,⟨by simp⟩,hlen1,?_,fun _=>⟨⟨z,?_,by rw[hz,hlen1]⟩,notFrozen hb2,⟨?_⟩,?_⟩⟩⟩⟩
  ·intro y hy
   simp only[List.mem_cons,List.mem_map]at hy
   rcases hy with rfl|⟨_,_,rfl⟩<;>rfl
  ·exact ldA_blk hb2 0 _ (by simp)
  ·have:=block_lt hD.hd
   simp only[List.mem_singleton]
   omega
  rintro w3 rfl
  have hk3:KpL [w1.heap.size] w2 (stA w2 ⟨w1.heap.size,0,none⟩ (Value.int .i64 (a:Int)::b.map (Value.int .u8)) 0):=stA_kp w2 ⟨w1.heap.size,0,none⟩ _
  have hb3:=stA_ld (off:=0) (l:=Value.int .i64 (a:Int)::b.map (Value.int .u8)) hb2 (by rw[hlen1,hz];simp)
  rw[List.take_zero,List.nil_append,hlen1,List.drop_eq_nil_of_le (by omega),List.append_nil]at hb3
  generalize hw3:stA w2 ⟨w1.heap.size,0,none⟩ (Value.int .i64 (a:Int)::b.map (Value.int .u8)) 0=w3 at hk3 hb3 ⊢
  have hkf:KpL [] w1 w3:=hk2.more hk3 (by simp)
  have hD3:=hD.kp0 hkf
  have hps3:R (tSl (tI .u8)) (d::bd::bn::blkL (some ad)) w3 ps [.slice ba ps.length bc]:=(hps.kp hK (by simp)).kp0 hkf
  have hp0:0≤pickOf ps n1.toNat∧pickOf ps n1.toNat≤255:=by
   unfold pickOf
   split
   ·omega
   ·rename_i hne
    have hlt:n1.toNat%ps.length<ps.length:=Nat.mod_lt _ (by omega)
    rw[List.getD_eq_getElem?_getD,List.getElem?_eq_getElem hlt,Option.getD_some]
    exact ini_u8.1 (hps.ints _ (List.getElem_mem hlt))
  have hft:=fromTo_le _ hp0.1
  refine⟨fun vs w'=>w'=w3∧vs=[.int .i64 (pickOf ps n1.toNat)],fun _=>⟨fun hpos=>?_,fun hnp _=>⟨rfl,?_⟩⟩,?_⟩
  ·have hlt:n1.toNat%ps.length<ps.length:=Nat.mod_lt _ (by omega)
   obtain⟨ad2,cs2,rfl,hv2,hld2,_,_⟩:=hps3.sl_get hlt
   obtain⟨rfl,hin2⟩:=hv2.intD
   have e1:Int.tmod n1 (ps.length:Int)=((n1.toNat%ps.length:Nat):Int):=by
    rw[Int.tmod_eq_emod_of_nonneg hi0,Int.natCast_emod,Int.toNat_of_nonneg hi0]
   have e2:pickOf ps n1.toNat=ps[n1.toNat%ps.length]:=by
    unfold pickOf
    rw[if_neg (by omega),List.getD_eq_getElem?_getD,List.getElem?_eq_getElem hlt,Option.getD_some]
   rw[e1]
   have hin8:=ini_u8.1 hin2
   exact⟨by omega,ad2,rfl,by omega,by omega,fun _=>⟨_,hld2,ini_i64.2 (by omega),fun _=>⟨rfl,by rw[e2]⟩⟩⟩
  ·unfold pickOf
   rw[if_pos (by omega)]
  rintro n3 w4 ⟨rfl,hv⟩
  simp only[List.cons.injEq,Value.int.injEq,true_and,and_true]at hv
  subst hv
  generalize hpk:pickOf ps n1.toNat=p at *
  have e65:Int.tmod p 65=p%65:=Int.tmod_eq_emod_of_nonneg hp0.1
  refine⟨by omega,fun vs w'=>w'=w4∧vs=[.int .i64 ((fromTo p).1:Nat),.int .i64 ((fromTo p).2:Nat)],fun _=>⟨fun hge=>⟨ini_i64.2 (by omega),fun _=>⟨rfl,?_⟩⟩,fun hlt2 _=>⟨rfl,?_⟩⟩,?_⟩
  ·rw[e65]
   unfold fromTo
   rw[if_pos hge]
   simp only[List.cons.injEq,Value.int.injEq,true_and,and_true]
   omega
  ·rw[e65]
   unfold fromTo
   rw[if_neg hlt2]
   simp only[List.cons.injEq,Value.int.injEq,true_and,and_true]
   omega
  rintro n4 n5 w5 ⟨rfl,hv⟩
  simp only[List.cons.injEq,Value.int.injEq,true_and,and_true]at hv
  obtain⟨rfl,rfl⟩:=hv
  generalize hff:(fromTo p).1=f at *
  generalize htt:(fromTo p).2=t at *
  have hN:k.now.length≤131072:=by obtain⟨s,h1,h2,h3⟩:=h.ok.secs;omega
  have hdN:du.length=k.now.length:=hdl.trans h.ok.len
  refine⟨_,ldA_blk hb3 0 _ (by simp),_,_,_,pv_sliceArr u91 elB33.size (l:=f) (h:=t) (.inl rfl) (.inl rfl) hft.1 hft.2,fun w6 hk6 _=>⟨(sector_ok (i:=a) (n:=k.now.length) (by omega) (Nat.le_add_right _ _) (by omega)).mono ?_⟩⟩
  rintro e w7 ⟨rfl,hk7⟩
  rw[if_neg (by omega),Option.map_some,add_lit,Nat.zero_add,Nat.mul_one]
  refine⟨_,_,_,rfl,hk7,_,_,_,pv_slice elB33 (l:=f) (h:=t) (.inl rfl) (.inl rfl) hft.1 (by omega),fun _=>?_⟩
  have hk57:KpL [] w5 w7:=hk6.trans hk7
  have hD7:=hD3.kp0 hk57
  have hb7:w7.heap[w1.heap.size]?=_:=(hk57.blk _ (block_lt hb3) (by simp)).trans hb3
  have hRb:R (tSl (tI .u8)) [] w7 b [.slice (some ⟨w1.heap.size,1,none⟩) 64 64]:=by
   refine⟨_,64,by rw[hwl],by omega,by omega,fun _=>⟨w1.heap.size,1,_,175,_,rfl,⟨block_lt hb7,by simp⟩,hb7,fun j x hx=>⟨[.int .u8 x],⟨rfl,hwb x (List.mem_of_getElem? hx)⟩,fun m v hv=>?_⟩⟩⟩
   cases m with
   |succ m=>simp at hv
   |zero =>
    simp at hv
    subst hv
    show(Value.int .i64 (a:Int)::b.map (Value.int .u8)).toArray.toList[1+j*1+0]?=_
    rw[show 1+j*1+0=j+1 from by omega]
    simp[hx]
  have hRs:=hRb.sub f t hft.1 (by omega)
  have e3:(if 64=f then (some ⟨w1.heap.size,1,none⟩:Option Addr) else (some ⟨w1.heap.size,1,none⟩:Option Addr).map (·.add (f*(tI .u8).sz)))=some (if 64=f then (Addr.add ⟨w1.heap.size,0,none⟩ 1) else (Addr.add ⟨w1.heap.size,0,none⟩ 1).add (f*1)):=by
   have:(tI .u8).sz=1:=rfl
   split<;>simp only[Option.map_some,add_lit,Nat.zero_add,this]
  rw[e3]at hRs
  obtain⟨off,hoff,hoff2⟩:∃off,(if k.now.length+rd.length - a*64=f then (some ⟨bd,a*64,none⟩:Option Addr) else (some ⟨bd,a*64,none⟩:Option Addr).map (·.add (f*1)))=some ⟨bd,off,none⟩∧(off=a*64+f∨f=t∧off=a*64):=by
   split
   ·exact⟨_,rfl,.inr ⟨by omega,rfl⟩⟩
   ·exact⟨_,by rw[Option.map_some,add_lit],.inl (by omega)⟩
  rw[hoff]
  refine ev_copy (M:=[]) elB33 (arr:=du.map (Value.int .u8)++rd) hD7.hbd (by show off+(t - f)*1≤_;rw[List.length_append,List.length_map];omega) hRs fun w8 ly hfl hb8 hk8=>⟨_,rfl,_,hk8,⟨by simp[h.d1]⟩,ini_i64.2 (by omega),fun _=>?_⟩
  have hly:=flat_int hfl
  have htk:((b.drop f).take (t - f)).take (min (t - f) (t - f))=(b.drop f).take (t - f):=by rw[Nat.min_self,List.take_take,Nat.min_self]
  rw[htk]at hly
  subst hly
  have hll:((b.drop f).take (t - f)).length=t - f:=by simp;omega
  have hoff3:off+(t - f)≤du.length:=by omega
  have hnew:(du.map (Value.int .u8)++rd).take off++((((b.drop f).take (t - f)).map (Value.int .u8))++(du.map (Value.int .u8)++rd).drop (off+(((b.drop f).take (t - f)).map (Value.int .u8)).length))=(tear1 du a b f t).map (Value.int .u8)++rd:=by
   rw[List.length_map,hll,List.take_append_of_le_length (by rw[List.length_map];omega),List.drop_append_of_le_length (by rw[List.length_map];omega),←List.append_assoc,←List.append_assoc]
   congr 1
   unfold tear1
   simp only[List.map_append,List.map_take,List.map_drop,List.append_assoc]
   rcases hoff2 with rfl|⟨rfl,rfl⟩
   ·rw[show a*64+f+(t - f)=a*64+t from by omega]
   ·rw[Nat.sub_self,List.take_zero,List.nil_append,List.nil_append,Nat.add_zero,List.take_append_drop,List.take_append_drop]
  rw[hnew]at hb8
  have hkall:KpL [bd] w1 w8:=by
   have:KpL [] w1 w7:=hkf.trans hk57
   exact(this.mono (by simp)).trans hk8
  have e4:(n1+1).toNat=n1.toNat+1:=by omega
  have hD8:=hD7.setDur hk8 hb8 (by rw[tear1_len hft.1 hft.2 hwl (by omega)]) (tear1_by hD.ok.dby hwb)
  refine⟨⟨n1+1,tear1 du a b f t,rfl,by omega,by omega,hD8,hK.trans hkall,by rw[tear1_len hft.1 hft.2 hwl (by omega)];exact hdl,by rw[e4,←htd];exact ht⟩,?_⟩
  show k.pend.length - (n1+1).toNat<k.pend.length - n1.toNat
  omega
 ·intro hge w9 hk9 hd9
  have e1:n1.toNat=k.pend.length:=by omega
  have hN:k.now.length≤131072:=by obtain⟨s,h1,h2,h3⟩:=h.ok.secs;omega
  rw[e1,List.drop_length]at ht
  have ht':du=tearAll ps 0 k.pend k.dur:=ht
  have hD9:DkIn M w9 d { k with dur:=du,pend:=[],fuse:=-1,picks:=[],down:=true } bd bn rd rn none 0 0 none 0 0 wr sy :=
   hD.set hk9 (by simp) hd9 rfl rfl (Acc.nil' _ hD.pend.mlt) (R.sl_nil _ _ _ _ _) ⟨hD.ok.secs,hD.ok.len,hD.ok.dby,hD.ok.nby,ini_i64.2 (by simp),hD.ok.sin,fun p hp=>by simp at hp⟩
  have hdN:du.length=k.now.length:=hdl.trans h.ok.len
  have hRd:R (tSl (tI .u8)) [] w9 du [.slice (some ⟨bd,0,none⟩) k.now.length (k.now.length+rd.length)]:=by
   have:=R.ofBlk (M:=[]) (c:=k.now.length+rd.length) hD9.hbd (by simp) hD.ok.dby (by show du.length≤_;omega) (by show du.length≤_;omega)
   rw[show({ k with dur:=du,pend:=[],fuse:=-1,picks:=[],down:=true }:Dk).dur=du from rfl,hdN]at this
   exact this
  refine ev_copy elB33 (arr:=k.now.map (Value.int .u8)++rn) hD9.hbn (by show 0+k.now.length*1≤_;rw[List.length_append,List.length_map];omega) hRd fun w10 ly hfl hb10 hk10=>⟨_,rfl,_,hk10,⟨by simp[h.d2]⟩,fun _=>⟨rfl,?_⟩⟩
  have hly:=flat_int hfl
  rw[Nat.min_self,List.take_of_length_le (by omega)]at hly
  subst hly
  rw[List.take_zero,List.nil_append,Nat.zero_add,List.drop_append_of_le_length (by simp;omega),List.drop_eq_nil_of_le (by simp;omega),List.nil_append]at hb10
  have hD10:=hD9.setNow hk10 hb10 hdN hD.ok.dby
  refine⟨d::bd::bn::blkL none,⟨bd,bn,rd,rn,none,0,0,none,0,0,wr,sy,?_,rfl⟩,⟨?_,?_⟩⟩
  ·have:k.fall ps={ k with dur:=du,now:=du,pend:=[],fuse:=-1,picks:=[],down:=true }:=by
    unfold Dk.fall
    rw[ht']
   rw[this]
   exact hD10
  ·refine((hK.mono ?_).trans (hk9.mono ?_)).trans (hk10.mono ?_)<;>simp
  ·intro b hb
   simp[blkL]at hb
   left
   rcases hb with rfl|rfl|rfl<;>simp
end Go.Vc
namespace Go.Vc
open Go Go.Proofs
def Dk.fails(k:Dk):Bool×Dk:=if k.fuse=0 then (true,k.fall k.picks) else if 0<k.fuse then (false,{ k with fuse:=k.fuse - 1 }) else (false,k)
def Dk.put(k:Dk)(i:Nat)(b:List Int):Dk:={ k with pend:=k.pend++[((i:Int),b)],now:=tear1 k.now i b 0 64 }
def Dk.write(k:Dk)(i:Nat)(b:List Int):Int×Dk:=if k.down=true then (17,k) else (if (k.put i b).fails.1=true then 17 else 0,(k.put i b).fails.2)
def Dk.sync(k:Dk):Int×Dk:=if k.down=true then (17,k) else if k.fails.1=true then (17,k.fails.2) else (0,{ k.fails.2 with dur:=k.fails.2.now,pend:=[] })
def Dk.restart(k:Dk):Dk:={ k with down:=false,fuse:=-1,picks:=[] }
def DkTo(M F:List Nat)(w:World)(d:Nat)(k:Dk)(w':World):Prop:=∃F',DkAt M w' d k F'∧Own F w F' w'
theorem DkTo.of{M F:List Nat}{w w':World}{d:Nat}{k:Dk}{bd bn:Nat}{rd rn:List Value}{pe:Option Addr}{pn pc:Nat}{pk:Option Addr}{kn kc:Nat}{wr sy:Int}(h:DkIn M w' d k bd bn rd rn pe pn pc pk kn kc wr sy)(hO:Own F w (d::bd::bn::blkL pe) w'):DkTo M F w d k w' :=
 ⟨_,⟨_,_,_,_,_,_,_,_,_,_,_,_,h,rfl⟩,hO⟩
theorem apW:ApT Tryz.prog 97 97 175 65 72:=apB_sound (by kernel_rfl)
theorem z175:∃z,zeroT Tryz.prog 175=some z∧z.length=65:=by
 have h:(zeroT Tryz.prog 175).map (·.length)=some 65:=by kernel_rfl
 exact Option.map_eq_some_iff.1 h
theorem pl175:∃pl,placeT Tryz.prog 175=some pl∧pl 0=some (0,1)∧pl 1=some (1,64) :=
 ⟨placeS Tryz.prog [⟨"at",3,0,false, "", "tesseract/ingest",0⟩,⟨"b",91,1,false, "", "tesseract/ingest",8⟩],by kernel_rfl,by kernel_rfl,by kernel_rfl⟩
theorem pv_write{i:Int}{l:List Value}(hl:l.length=64):Pv Tryz.prog (Instr.build 175 #[(0,.int .i64 i),(1,.agg l.toArray)]) (.agg (Value.int .i64 i::l).toArray):=by
 obtain⟨z,hz,hzl⟩:=z175
 obtain⟨pl,hp,hp0,hp1⟩:=pl175
 have hf:fillT Tryz.prog 175 [(0,.a (.c (.v (.int .i64 i)))),(1,.a (.agg (ofL l)))]=some (.v (.int .i64 i)::ofL l):=by
  have ha:aggT Tryz.prog 175=true:=by kernel_rfl
  have hol:(ofL l).length=64:=by rw[ofL_eq];simpa using hl
  unfold fillT
  simp only[ha,hz,hp]
  rw[fillC_one (cs:=[.v (.int .i64 i)]) hp0 rfl rfl (show 0+1≤z.length by omega),fillC_one (cs:=ofL l) hp1 rfl hol (by rw[setL_length];omega)]
  simp only[fillC,Option.some.injEq]
  rw[setL_form _ _ _ (by rw[setL_length,hol];omega),setL_form _ _ _ (by simp;omega)]
  rw[List.take_zero,List.nil_append]
  have e1:([C.v (Value.int .i64 i)]++z.drop (0+[C.v (Value.int .i64 i)].length)).drop (1+(ofL l).length)=[]:=List.drop_eq_nil_of_le (by simp[hol,hzl])
  rw[e1,List.append_nil]
  simp
 have:=(build_sound (ρ:=[]) hf (by
  intro p hp
  simp only[List.mem_cons,List.not_mem_nil,or_false]at hp
  rcases hp with rfl|rfl
  ·exact⟨trivial,rfl⟩
  ·exact⟨ofL_bd _ _,rfl⟩)).2
 refine⟨fun w=>?_⟩
 have h2:=this w
 simpa[denP,V.den,A.den,C.den,ofL_den,denL]using h2
section
variable {M F:List Nat} {w:World} {d:Nat} {k:Dk} (h:DkAt M w d k F)
include h
theorem dFails_ok(hpl:k.pend.length≤1099511627776):Calls Tryz.prog 93 #[.pointer (some ⟨d,0,none⟩)] w fun e w'=>e=.returned (.bool k.fails.1)∧DkTo M F w d k.fails.2 w':=by
 have h0:=h
 obtain⟨bd,bn,rd,rn,pe,pn,pc,pk,kn,kc,wr,sy,h,rfl⟩:=h
 have hfi:=ini_i64.1 h.ok.fin
 refine dFails_vc h.hd ⟨fun hz _=>⟨(dFall_ok h0 (ps:=k.picks) (ba:=pk) (bl:=kn) (bc:=kc) (h.picks.weak ?_) hpl).mono ?_⟩,fun hne=>⟨fun hpos w2 hk2 hd2=>⟨?_,?_⟩,fun hnp _=>⟨?_,?_⟩⟩⟩
 ·intro b hb
  simp only[List.mem_cons]at hb ⊢
  rcases hb with rfl|rfl|rfl|hb
  ·simp
  ·simp
  ·simp
  ·simp[hb]
 ·rintro e w1 ⟨rfl,F',hD,hO⟩
  refine⟨rfl,_,hO.kp,?_,F',?_,hO⟩
  ·unfold Dk.fails;rw[if_pos hz]
  ·unfold Dk.fails;rw[if_pos hz];exact hD
 ·unfold Dk.fails;rw[if_neg hne,if_pos hpos]
 ·have e1:IntKind.i64.wrap (k.fuse - 1)=k.fuse - 1:=wrap_in (ini_i64.2 (by omega))
  rw[e1]at hd2
  have hk':k.fails.2={ k with fuse:=k.fuse - 1 }:=by unfold Dk.fails;rw[if_neg hne,if_pos hpos]
  rw[hk']
  refine⟨_,⟨_,_,_,_,_,_,_,_,_,_,_,_,h.set (k':={ k with fuse:=k.fuse - 1 }) hk2 (by simp) hd2 rfl rfl h.pend h.picks ⟨h.ok.secs,h.ok.len,h.ok.dby,h.ok.nby,ini_i64.2 (by show _≤k.fuse - 1∧k.fuse - 1≤_;omega),h.ok.sin,h.ok.pend⟩,rfl⟩,hk2.mono (by simp),fun b hb=>.inl hb⟩
 ·unfold Dk.fails;rw[if_neg hne,if_neg hnp]
 ·have hk':k.fails.2=k:=by unfold Dk.fails;rw[if_neg hne,if_neg hnp]
  rw[hk']
  exact⟨_,h0,Own.refl _ _⟩
theorem dRestart_ok:Calls Tryz.prog 34 #[.pointer (some ⟨d,0,none⟩)] w fun e w'=>e=.returned (.int .i64 0)∧DkTo M F w d k.restart w':=by
 have h0:=h
 obtain⟨bd,bn,rd,rn,pe,pn,pc,pk,kn,kc,wr,sy,h,rfl⟩:=h
 refine dRestart_vc h.hd fun _=>⟨(dIs_ok h0).mono ?_⟩
 rintro e w1 ⟨rfl,hk1⟩
 refine⟨_,rfl,hk1,fun hc=>by simp at hc,fun _ w2 hk2 hd2=>⟨rfl,?_⟩⟩
 have h1:=h.kp0 hk1
 exact⟨_,⟨_,_,_,_,_,_,_,_,_,_,_,_,h1.set (k':=k.restart) hk2 (by simp) hd2 rfl rfl h1.pend (R.sl_nil _ _ _ _ _) ⟨h.ok.secs,h.ok.len,h.ok.dby,h.ok.nby,ini_i64.2 (by simp[Dk.restart]),h.ok.sin,h.ok.pend⟩,rfl⟩,
  (hk1.mono (by simp)).trans (hk2.mono (by simp)),fun b hb=>.inl hb⟩
theorem dSync_ok(hpl:k.pend.length≤1099511627776):Calls Tryz.prog 37 #[.pointer (some ⟨d,0,none⟩)] w fun e w'=>e=.returned (.int .i64 k.sync.1)∧DkTo M F w d k.sync.2 w':=by
 have h0:=h
 obtain⟨bd,bn,rd,rn,pe,pn,pc,pk,kn,kc,wr,sy,h,rfl⟩:=h
 refine dSync_vc h.hd fun _=>⟨(dIs_ok h0).mono ?_⟩
 rintro e w1 ⟨rfl,hk1⟩
 have h1:=h.kp0 hk1
 refine⟨_,rfl,hk1,fun hc=>by simp at hc,fun _=>⟨fun hdn _=>⟨?_,?_⟩,fun hup w2 hk2 hd2=>?_⟩⟩
 ·unfold Dk.sync;rw[if_pos hdn]
 ·unfold Dk.sync;rw[if_pos hdn]
  exact⟨_,h0.kp0 hk1,Own.of0 hk1⟩
 have h2:=h1.set (k':=k) hk2 (by simp) hd2 rfl rfl h1.pend h1.picks h.ok
 have hO2:Own (d::bd::bn::blkL pe) w (d::bd::bn::blkL pe) w2:=⟨(hk1.mono (by simp)).trans (hk2.mono (by simp)),fun b hb=>.inl hb⟩
 refine⟨(dFails_ok ⟨_,_,_,_,_,_,_,_,_,_,_,_,h2,rfl⟩ hpl).mono ?_⟩
 rintro e w3 ⟨rfl,F3,hD3,hO3⟩
 refine⟨_,rfl,_,hO3.kp,fun hf=>⟨?_,?_⟩,fun hf=>?_⟩
 ·unfold Dk.sync;rw[if_neg (by simp[hup]),if_pos hf]
 ·unfold Dk.sync;rw[if_neg (by simp[hup]),if_pos hf]
  exact⟨_,hD3,hO2.trans hO3⟩
 obtain⟨bd3,bn3,rd3,rn3,pe3,pn3,pc3,pk3,kn3,kc3,wr3,sy3,h3,rfl⟩:=hD3
 refine⟨_,_,_,ldA_blk h3.hd 0 _ rfl,_,_,_,ldA_blk h3.hd 1 _ rfl,fun w4 hk4=>?_⟩
 have h4:=h3.kp0 hk4
 have hN:k.fails.2.now.length≤131072:=by obtain⟨s,h1,h2,h3⟩:=h3.ok.secs;omega
 have hRn:R (tSl (tI .u8)) [] w4 k.fails.2.now [.slice (some ⟨bn3,0,none⟩) k.fails.2.now.length (k.fails.2.now.length+rn3.length)] :=
  R.ofBlk h4.hbn (by simp) h4.ok.nby (Nat.le_add_right _ _) (by have:maxSl=140737488355328:=rfl;omega)
 refine ev_copy elB33 (arr:=k.fails.2.dur.map (Value.int .u8)++rd3) h4.hbd (by show 0+k.fails.2.now.length*1≤_;rw[List.length_append,List.length_map,h4.ok.len];omega) hRn fun w5 ly hfl hb5 hk5=>⟨_,rfl,_,hk5,?_⟩
 have hly:=flat_int hfl
 rw[Nat.min_self,List.take_of_length_le (Nat.le_refl _)]at hly
 subst hly
 rw[List.take_zero,List.nil_append,Nat.zero_add,List.drop_append_of_le_length (by simp[h4.ok.len]),List.drop_eq_nil_of_le (by simp[h4.ok.len]),List.nil_append]at hb5
 have h5:=h4.setDur hk5 hb5 h4.ok.len.symm h4.ok.nby
 refine⟨⟨_,ldA_blk h5.hd 2 [_] rfl,rfl⟩,notFrozen h5.hd,?_⟩
 rintro w6 rfl
 have hk6:KpL [d] w5 (stA w5 ⟨d,2,none⟩ [.slice none 0 0] 0):=stA_kp w5 ⟨d,2,none⟩ _
 have hd6:=stA_ld (off:=2) (l:=[.slice none 0 0]) h5.hd (by simp)
 have h6:=h5.set (k':={ k.fails.2 with dur:=k.fails.2.now,pend:=[] }) hk6 (by simp) hd6 rfl rfl (Acc.nil' _ h5.pend.mlt) (h5.picks.weak (by
  intro b hb
  simp only[blkL,List.nil_append,List.mem_cons]at hb ⊢
  rcases hb with rfl|rfl|rfl|hb
  ·simp
  ·simp
  ·simp
  ·simp[hb])) ⟨h5.ok.secs,h5.ok.len,h5.ok.dby,h5.ok.nby,h5.ok.fin,h5.ok.sin,fun p hp=>by simp at hp⟩
 have hk:k.sync=(0,{ k.fails.2 with dur:=k.fails.2.now,pend:=[] }):=by unfold Dk.sync;rw[if_neg (by simp[hup]),if_neg (by simp[hf])]
 rw[hk]
 refine⟨rfl,DkTo.of h6 ((hO2.trans hO3).trans ⟨((hk4.mono (by simp)).trans (hk5.mono (by simp))).trans (hk6.mono (by simp)),fun b hb=>?_⟩)⟩
 simp[blkL]at hb
 left
 rcases hb with rfl|rfl|rfl<;>simp
theorem dWrite_ok(hpl:k.pend.length≤1099511627775){i:Nat}{b:List Int}{ba:Option Addr}{bc:Nat}{Mb:List Nat}(hi:i*64+64≤k.now.length)(hb:R (tSl (tI .u8)) (F++Mb) w b [.slice ba 64 bc]):
 Calls Tryz.prog 32 #[.pointer (some ⟨d,0,none⟩),.int .i64 i,.slice ba 64 bc] w fun e w'=>e=.returned (.int .i64 (k.write i b).1)∧DkTo M F w d (k.write i b).2 w':=by
 have h0:=h
 obtain⟨bd,bn,rd,rn,pe,pn,pc,pk,kn,kc,wr,sy,h,rfl⟩:=h
 have hN:k.now.length≤131072:=by obtain⟨s,h1,h2,h3⟩:=h.ok.secs;omega
 have hby:=hb.ints
 have hbl:b.length=64:=hb.sl_len'
 refine dWrite_vc h.hd fun _=>⟨(dIs_ok h0).mono ?_⟩
 rintro e w1 ⟨rfl,hk1⟩
 refine⟨_,rfl,hk1,fun hc=>by simp at hc,fun _=>⟨fun hnn _=>⟨(dSectors_ok (h0.kp0 hk1)).mono ?_⟩,fun hc=>by omega⟩⟩
 rintro e w2 ⟨rfl,hk2⟩
 have hk12:=hk1.trans hk2
 refine⟨_,rfl,hk2,fun hc=>?_,fun _=>⟨fun hc=>by simp at hc,fun _=>⟨fun hdn _=>⟨?_,?_⟩,fun hup w3 hk3 hd3=>?_⟩⟩⟩
 ·exfalso
  obtain⟨s,h1,h2,h3⟩:=h.ok.secs
  unfold Dk.secs at hc
  omega
 ·unfold Dk.write;rw[if_pos hdn]
 ·unfold Dk.write;rw[if_pos hdn]
  exact⟨_,h0.kp0 hk12,Own.of0 hk12⟩
 have h2:=h.kp0 hk12
 have h3:=h2.set (k':=k) hk3 (by simp) hd3 rfl rfl h2.pend h2.picks h.ok
 have hO3:Own (d::bd::bn::blkL pe) w (d::bd::bn::blkL pe) w3:=⟨(hk12.mono (by simp)).trans (hk3.mono (by simp)),fun b hb=>.inl hb⟩
 have hb3:R (tSl (tI .u8)) (d::bd::bn::blkL pe) w3 b [.slice ba 64 bc]:=(hO3.data hb).weak (by intro x hx;exact List.mem_append_left _ hx)
 obtain⟨ad,rfl⟩:∃ad,ba=some ad:=by
  obtain⟨ad,_,h,_⟩:=hb3.sl_get (i:=0) (by omega)
  exact⟨ad,h⟩
 obtain⟨l2,hf2,hl2,_⟩:=hb3.flat
 have hl2':=flat_int hf2
 subst hl2'
 have hld:=hl2 ad rfl (by rintro rfl;simp at hbl)
 have hlen:(b.map (Value.int .u8)).length=64:=by rw[List.length_map];exact hbl
 refine ev_arrayAt u91 (Nat.le_refl _) ⟨_,rfl,[],KpL.refl _ _,⟨by simp⟩,fun _=>⟨⟨ldA_blk h3.hd 2 _ rfl,trivial⟩,fun _=>⟨_,hlen,hld,_,by simp[hbl],pv_write hlen,fun _=>?_⟩⟩⟩
 refine ev_slice1 apW.el (by omega) (by omega) (by simp[hbl]) fun w5 hb5 hk5=>⟨_,_,_,rfl,_,hk5,⟨by simp⟩,fun _=>?_⟩
 have h5:=h3.kp0 hk5
 have hpn:=h5.pend.len
 have hRx:R tWr (blkL pe++(d::bd::bn::M)) w5 ((i:Int),b) (.int .i64 (i:Int)::b.map (Value.int .u8)):=⟨rfl,ini_i64.2 (by show _≤(i:Int)∧(i:Int)≤_;omega),hbl,hby⟩
 refine ev_append1 apW h5.pend hb5 hRx (by omega) fun a' c' w6 hC6=>⟨_,_,_,rfl,_,hC6.kp,h5.pend.out (by simp),fun w7 hk7 hd7=>?_⟩
 have hin:∀x∈[d,bd,bn],x∉blkL pe:=by
  intro x hx hm
  exact(h5.pend.blk_lt x hm).2 (by simp only[List.mem_cons,List.not_mem_nil,or_false]at hx ⊢;rcases hx with rfl|rfl|rfl<;>simp)
 have h6:DkIn M w7 d { k with pend:=k.pend++[((i:Int),b)] } bd bn rd rn a' (pn+1) c' pk kn kc (IntKind.i64.wrap (wr+1)) sy:=by
  have n1:bd∉[d]:=by simp;exact fun e=>h.d1 e.symm
  have n2:bn∉[d]:=by simp;exact fun e=>h.d2 e.symm
  refine⟨hd7,?_,?_,hC6.acc.kp hk7 (by simp),(h5.picks.step hC6.kp (by intro x hx;simp[hx]) (M':=d::bd::bn::(blkL a'++M)) ?_).kp hk7 (by simp),h.d1,h.d2,h.d3,h.m1,h.m2,h.m3,⟨h.ok.secs,h.ok.len,h.ok.dby,h.ok.nby,h.ok.fin,h.ok.sin,?_⟩⟩
  ·rw[hk7.blk bd (Nat.lt_of_lt_of_le (block_lt h5.hbd) hC6.kp.size) n1,hC6.kp.blk bd (block_lt h5.hbd) (hin bd (by simp))];exact h5.hbd
  ·rw[hk7.blk bn (Nat.lt_of_lt_of_le (block_lt h5.hbn) hC6.kp.size) n2,hC6.kp.blk bn (block_lt h5.hbn) (hin bn (by simp))];exact h5.hbn
  ·intro x hx
   simp only[List.mem_cons,List.mem_append]at hx ⊢
   rcases hx with rfl|rfl|rfl|hx|hx
   ·simp
   ·simp
   ·simp
   ·rcases hC6.own x hx with hx|hx
    ·simp[hx]
    ·exact .inr hx
   ·simp[hx]
  ·intro p hp
   rcases List.mem_append.1 hp with hp|hp
   ·exact h.ok.pend p hp
   ·simp at hp
    subst hp
    exact⟨by simp,by show 64*(i:Int)+64≤(k.now.length:Int);omega⟩
 have hO7:Own (d::bd::bn::blkL pe) w5 (d::bd::bn::blkL a') w7:=by
  refine⟨(hC6.kp.mono (by simp_all)).trans (hk7.mono (by simp)),fun x hx=>?_⟩
  simp only[List.mem_cons]at hx ⊢
  rcases hx with rfl|rfl|rfl|hx
  ·simp
  ·simp
  ·simp
  ·rcases hC6.own x hx with hx|hx
   ·simp[hx]
   ·exact .inr hx
 have hO57:=((hO3.kp0 hk5).trans hO7)
 have hb7:R (tSl (tI .u8)) (d::bd::bn::blkL a') w7 b [.slice (some ad) 64 bc]:=(hO57.data (N:=[]) (by simpa using hb.weak (M':=d::bd::bn::blkL pe) (by intro x hx;exact List.mem_append_left _ hx))).weak (by simp)
 refine⟨(sector_ok (i:=i) (n:=k.now.length) (show(i+1)*64≤k.now.length by omega) (Nat.le_add_right _ _) (show k.now.length≤_ by omega)).mono ?_⟩
 rintro e w8 ⟨rfl,hk8⟩
 rw[if_neg (show ¬k.now.length+rn.length=i*64 by omega),Option.map_some,add_lit,Nat.zero_add,Nat.mul_one]
 refine⟨_,_,_,rfl,hk8,fun _=>?_⟩
 have h8:=h6.kp0 hk8
 refine ev_copy elB33 (arr:=k.now.map (Value.int .u8)++rn) h8.hbn (by show i*64+64*1≤_;rw[List.length_append,List.length_map];omega) (hb7.kp0 hk8) fun w9 ly hfl hb9 hk9=>⟨_,rfl,_,hk9,⟨by simp[h.d2]⟩,fun _=>?_⟩
 have hly:=flat_int hfl
 rw[Nat.min_self,List.take_of_length_le (by omega)]at hly
 subst hly
 have hnew:(k.now.map (Value.int .u8)++rn).take (i*64)++(b.map (Value.int .u8)++(k.now.map (Value.int .u8)++rn).drop (i*64+(b.map (Value.int .u8)).length))=(tear1 k.now i b 0 64).map (Value.int .u8)++rn:=by
  rw[List.length_map,hbl,List.take_append_of_le_length (by rw[List.length_map];omega),List.drop_append_of_le_length (by rw[List.length_map];omega),←List.append_assoc,←List.append_assoc]
  congr 1
  unfold tear1
  simp only[List.map_append,List.map_take,List.map_drop,Nat.add_zero,List.drop_zero,Nat.sub_zero,List.append_assoc]
  rw[List.take_of_length_le (l:=List.map _ b) (by simp[hbl])]
 rw[hnew]at hb9
 have hbyt:Byts (tear1 k.now i b 0 64):=tear1_by h.ok.nby hby
 have hlen9:(tear1 k.now i b 0 64).length=k.now.length:=tear1_len (by omega) (by omega) hbl (by omega)
 have h9:=h8.setNow hk9 hb9 hlen9 hbyt
 have hO9:Own (d::bd::bn::blkL pe) w (d::bd::bn::blkL a') w9:=(hO57.kp0 hk8).trans ⟨hk9.mono (by simp),fun x hx=>.inl hx⟩
 have hput:({ k with pend:=k.pend++[((i:Int),b)],now:=tear1 k.now i b 0 64 }:Dk)=k.put i b:=rfl
 refine⟨(dFails_ok (k:=k.put i b) ⟨_,_,_,_,_,_,_,_,_,_,_,_,h9,rfl⟩ (by show(k.pend++_).length≤_;simp;omega)).mono ?_⟩
 rintro e w10 ⟨rfl,hT⟩
 have hres:k.write i b=(if (k.put i b).fails.1=true then 17 else 0,(k.put i b).fails.2):=by unfold Dk.write;rw[if_neg (by simp[hup])]
 rw[hres]
 obtain⟨F10,hD10,hO10⟩:=hT
 exact⟨_,rfl,_,hO10.kp,fun hf=>⟨by rw[if_pos hf],F10,hD10,hO9.trans hO10⟩,fun hf=>⟨by rw[if_neg (by simp[hf])],F10,hD10,hO9.trans hO10⟩⟩
end
end Go.Vc
namespace Go.Vc
open Go Go.Proofs
def Dk.readE(k:Dk)(i:Int):Int:=if i<0∨(k.secs:Int)≤i then 3 else if k.down=true then 17 else 0
def Dk.crash(k:Dk)(ps:List Int):Int×Dk:=if ps.length>256 then (8,k) else if k.down=true then (17,k) else (0,k.fall ps)
def Dk.fuseAt(k:Dk)(i:Int)(ps:List Int):Int×Dk:=if i<0 then (3,k) else if ps.length>256 then (8,k) else if k.down=true then (17,k) else (0,{ k with fuse:=i,picks:=ps })
theorem ez5:ElZ Tryz.prog 33 5 (.int .u8 0) 1:=elZ_of' byT.el.und (by kernel_rfl) (z:=.int .u8 0) (by kernel_rfl) rfl
section
variable {M F:List Nat} {w:World} {d:Nat} {k:Dk} (h:DkAt M w d k F)
include h
theorem dRead_ok{N:List Nat}(hN:∀b∈N,b<w.heap.size)(i:Int):Calls Tryz.prog 35 #[.pointer (some ⟨d,0,none⟩),.int .i64 i] w fun e w' =>
 ∃a n c,e=.returned (.tuple #[.slice a n c,.int .i64 (k.readE i)])∧KpL [] w w'∧(k.readE i=0→AccC (tI .u8) N w none (secOf k.now i.toNat) a n c w'):=by
 have h0:=h
 obtain⟨bd,bn,rd,rn,pe,pn,pc,pk,kn,kc,wr,sy,h,rfl⟩:=h
 obtain⟨s,hs1,hs2,hs3⟩:=h.ok.secs
 have e0:k.secs=s:=by unfold Dk.secs;omega
 refine dRead_vc h.hd fun _=>⟨(dIs_ok h0).mono ?_⟩
 rintro e w1 ⟨rfl,hk1⟩
 refine⟨_,rfl,hk1,fun hc=>by simp at hc,fun _=>⟨fun hnn _=>⟨(dSectors_ok (h0.kp0 hk1)).mono ?_⟩,fun hc=>?_⟩⟩
 rotate_left
 ·have e1:k.readE i=3:=by unfold Dk.readE;rw[if_pos (.inl hc)]
  rw[e1]
  exact⟨_,_,_,rfl,hk1,fun hc=>by omega⟩
 rintro e w2 ⟨rfl,hk2⟩
 have hk12:=hk1.trans hk2
 refine⟨_,rfl,hk2,fun hc=>?_,fun hlt=>⟨fun hdn=>?_,fun hup=>?_⟩⟩
 ·have e1:k.readE i=3:=by unfold Dk.readE;rw[if_pos (.inr hc)]
  rw[e1]
  exact⟨_,_,_,rfl,hk12,fun hc=>by omega⟩
 ·have e1:k.readE i=17:=by unfold Dk.readE;rw[if_neg (by omega),if_pos hdn]
  rw[e1]
  exact⟨_,_,_,rfl,hk12,fun hc=>by omega⟩
 have e1:k.readE i=0:=by unfold Dk.readE;rw[if_neg (by omega),if_neg (by simp[hup])]
 obtain⟨j,rfl⟩:∃j:Nat,i=j:=⟨i.toNat,by omega⟩
 refine⟨(sector_ok (n:=k.now.length) (i:=j) (by omega) (Nat.le_add_right _ _) (by omega)).mono ?_⟩
 rintro e w3 ⟨rfl,hk3⟩
 rw[if_neg (by omega),Option.map_some,add_lit]
 have h3:=h.kp0 (hk12.trans hk3)
 have hmx:maxSl=140737488355328:=rfl
 have hR0:R (tSl (tI .u8)) [] w3 k.now [.slice (some ⟨bn,0,none⟩) k.now.length (k.now.length+rn.length)]:=R.ofBlk h3.hbn (by simp) h3.ok.nby (Nat.le_add_right _ _) (by omega)
 have hR:=hR0.sub (j*64) (j*64+64) (by omega) (by omega)
 rw[if_neg (by omega),Option.map_some,add_lit,Nat.add_sub_cancel_left]at hR
 have hsz3:=(hk12.trans hk3).size
 refine⟨_,_,_,rfl,hk3,⟨(clone95_ok (M:=N) (fun b hb=>by have:=hN b hb;omega) (by omega) hR).mono ?_⟩⟩
 rintro e w4 ⟨a,n,c,rfl,hC⟩
 refine⟨_,_,_,rfl,hC.kp,?_⟩
 rw[e1]
 exact⟨_,_,_,rfl,(hk12.trans hk3).trans hC.kp,fun _=>⟨hC.acc,(hk12.trans hk3).trans hC.kp,fun b hb=>.inr (by have:=hC.own b hb;simp[blkL]at this;omega)⟩⟩
theorem dCrash_ok(hpl:k.pend.length≤1099511627776){ps:List Int}{ba:Option Addr}{bl bc:Nat}(hps:R (tSl (tI .u8)) F w ps [.slice ba bl bc]):
 Calls Tryz.prog 33 #[.pointer (some ⟨d,0,none⟩),.slice ba bl bc] w fun e w'=>e=.returned (.int .i64 (k.crash ps).1)∧DkTo M F w d (k.crash ps).2 w':=by
 have h0:=h
 obtain⟨bd,bn,rd,rn,pe,pn,pc,pk,kn,kc,wr,sy,h,rfl⟩:=h
 have hl:=hps.sl_len'
 refine dCrash_vc h.hd fun _=>⟨(dIs_ok h0).mono ?_⟩
 rintro e w1 ⟨rfl,hk1⟩
 refine⟨_,rfl,hk1,fun hc=>by simp at hc,fun _=>⟨fun hb=>?_,fun hs=>⟨fun hdn=>?_,fun hup _=>?_⟩⟩⟩
 ·have e1:k.crash ps=(8,k):=by unfold Dk.crash;rw[if_pos (by omega)]
  rw[e1]
  exact⟨rfl,_,h0.kp0 hk1,Own.of0 hk1⟩
 ·have e1:k.crash ps=(17,k):=by unfold Dk.crash;rw[if_neg (by omega),if_pos hdn]
  rw[e1]
  exact⟨rfl,_,h0.kp0 hk1,Own.of0 hk1⟩
 ·have e1:k.crash ps=(0,k.fall ps):=by unfold Dk.crash;rw[if_neg (by omega),if_neg (by simp[hup])]
  rw[e1]
  refine⟨(dFall_ok (h0.kp0 hk1) (hps.kp0 hk1) hpl).mono ?_⟩
  rintro e w2 ⟨rfl,F',hD,hO⟩
  exact⟨rfl,_,hO.kp,rfl,F',hD,(Own.of0 hk1).trans hO⟩
theorem dFuse_ok{Mb:List Nat}{i:Int}{ps:List Int}{ba:Option Addr}{bl bc:Nat}(hi:InI .i64 i)(hps:R (tSl (tI .u8)) Mb w ps [.slice ba bl bc]):
 Calls Tryz.prog 40 #[.pointer (some ⟨d,0,none⟩),.int .i64 i,.slice ba bl bc] w fun e w'=>e=.returned (.int .i64 (k.fuseAt i ps).1)∧DkTo M F w d (k.fuseAt i ps).2 w':=by
 have h0:=h
 obtain⟨bd,bn,rd,rn,pe,pn,pc,pk,kn,kc,wr,sy,h,rfl⟩:=h
 have hl:=hps.sl_len'
 refine dFuse_vc h.hd fun _=>⟨(dIs_ok h0).mono ?_⟩
 rintro e w1 ⟨rfl,hk1⟩
 refine⟨_,rfl,hk1,fun hc=>by simp at hc,fun _=>⟨fun hn _=>?_,fun hnn=>⟨fun hb _=>?_,fun hs=>⟨fun hdn _=>?_,fun hup _=>?_⟩⟩⟩⟩
 ·have e1:k.fuseAt i ps=(3,k):=by unfold Dk.fuseAt;rw[if_pos hn]
  rw[e1]
  exact⟨rfl,_,h0.kp0 hk1,Own.of0 hk1⟩
 ·have e1:k.fuseAt i ps=(8,k):=by unfold Dk.fuseAt;rw[if_neg hnn,if_pos (by omega)]
  rw[e1]
  exact⟨rfl,_,h0.kp0 hk1,Own.of0 hk1⟩
 ·have e1:k.fuseAt i ps=(17,k):=by unfold Dk.fuseAt;rw[if_neg hnn,if_neg (by omega),if_pos hdn]
  rw[e1]
  exact⟨rfl,_,h0.kp0 hk1,Own.of0 hk1⟩
 ·have e1:k.fuseAt i ps=(0,{ k with fuse:=i,picks:=ps }):=by unfold Dk.fuseAt;rw[if_neg hnn,if_neg (by omega),if_neg (by simp[hup])]
  rw[e1]
  have h1:=h.kp0 hk1
  have hMlt:∀b∈d::bd::bn::(blkL pe++M),b<w1.heap.size:=by
   intro b hb
   simp only[List.mem_cons,List.mem_append]at hb
   rcases hb with rfl|rfl|rfl|hb|hb
   ·exact block_lt h1.hd
   ·exact block_lt h1.hbd
   ·exact block_lt h1.hbn
   ·exact(h1.pend.blk_lt b hb).1
   ·exact h1.pend.mlt b (by simp[hb])
  refine⟨(clone95_ok hMlt (by omega) (hps.kp0 hk1)).mono ?_⟩
  rintro e w2 ⟨a,n,c,rfl,hC⟩
  have hn:n=ps.length:=hC.acc.len
  refine⟨_,_,_,rfl,hC.kp,fun w3 hk3 hd3=>⟨rfl,?_⟩⟩
  have h2:=h1.kp0 hC.kpn
  have hmx:maxSl=140737488355328:=rfl
  refine DkTo.of (h2.set (k':={ k with fuse:=i,picks:=ps }) hk3 (by simp) hd3 rfl rfl h2.pend (hC.acc.done (by omega)) ⟨h.ok.secs,h.ok.len,h.ok.dby,h.ok.nby,hi,h.ok.sin,h.ok.pend⟩) ((Own.of0 (hk1.trans hC.kpn)).trans ⟨hk3.mono (by simp),fun b hb=>.inl hb⟩)
end
def newDk(n:Nat):Dk:={ dur:=List.replicate (64*n) 0,now:=List.replicate (64*n) 0,pend:=[],fuse:=-1,picks:=[],down:=false,st:=0,n:=n }
theorem newDk_ok{n:Nat}(h1:64≤n)(h2:n≤2048):(newDk n).ok:=by
 refine⟨⟨n,by simp[newDk],by omega,h2,rfl⟩,by simp[newDk],?_,?_,ini_i64.2 (by simp[newDk]),ini_i64.2 (by simp[newDk]),fun p hp=>by simp[newDk]at hp⟩ <;>
 ·intro x hx
  rw[(List.mem_replicate.1 hx).2]
  exact ini_u8.2 (by omega)
theorem newDisk_ok{M:List Nat}{w:World}(hM:∀b∈M,b<w.heap.size){n:Nat}(h1:64≤n)(h2:n≤2048):Calls Tryz.prog 19 #[.int .i64 n] w fun e w' =>
 ∃d F,e=.returned (.tuple #[.pointer (some ⟨d,0,none⟩),.int .i64 0])∧KpL [] w w'∧DkAt M w' d (newDk n) F∧∀b∈F,w.heap.size≤b:=by
 have e64:((n:Int)*64).toNat=64*n:=by omega
 have key:∀(w1 w2 w3 w4:World) (b1 b2 d:Nat),KpL [] w w1→b1=w1.heap.size→w2.heap[b1]?=some (.cells (List.replicate (64*n) (Value.int .u8 0)).toArray 5 (0,0))→KpL [] w1 w2→
  b2=w2.heap.size→w3.heap[b2]?=some (.cells (List.replicate (64*n) (Value.int .u8 0)).toArray 5 (0,0))→KpL [] w2 w3→w3.heap.size≤d→KpL [] w3 w4→
  (∃bd bn:Nat,(bd=b1∧bn=b2∨bd=b2∧bn=b1)∧w4.heap[d]?=some (.cells #[.slice (some ⟨bd,0,none⟩) (64*n) (64*n),.slice (some ⟨bn,0,none⟩) (64*n) (64*n),.slice none 0 0,.int .i64 (-1),.slice none 0 0,.bool false,.int .i64 0,.int .i64 0,.int .i64 0] 99 (0,0)))→
  ∃F,KpL [] w w4∧DkAt M w4 d (newDk n) F∧∀b∈F,w.heap.size≤b:=by
  rintro w1 w2 w3 w4 b1 b2 d hk1 rfl hb1 hk2 rfl hb2 hk3 hd hk4 ⟨bd,bn,hb,hd4⟩
  have hb1':=(hk4.blk _ (Nat.lt_of_lt_of_le (block_lt hb1) hk3.size) (by simp)).trans ((hk3.blk _ (block_lt hb1) (by simp)).trans hb1)
  have hb2':=(hk4.blk _ (block_lt hb2) (by simp)).trans hb2
  have s1:=hk1.size
  have s2:=hk2.size
  have s3:=hk3.size
  have l1:=block_lt hb1
  have l2:=block_lt hb2
  have hlen:(newDk n).now.length=64*n:=by simp[newDk]
  have hmap:(newDk n).now.map (Value.int .u8)++[]=List.replicate (64*n) (Value.int .u8 0):=by simp[newDk]
  have hmap2:(newDk n).dur.map (Value.int .u8)++[]=List.replicate (64*n) (Value.int .u8 0):=by simp[newDk]
  have hMn:∀b∈M,b<w.heap.size:=hM
  have hall:∀x,(x=d∨x=bd∨x=bn)→w.heap.size≤x∧x<w4.heap.size:=by
   intro x hx
   have:=hk4.size
   have:=block_lt hd4
   rcases hx with rfl|rfl|rfl<;>rcases hb with ⟨rfl,rfl⟩|⟨rfl,rfl⟩<;>omega
  have hnm:∀x,(x=d∨x=bd∨x=bn)→x∉M:=fun x hx hm=>by
   have:=(hall x hx).1
   have:=hMn x hm
   omega
  refine⟨d::bd::bn::blkL none,((hk1.trans hk2).trans hk3).trans hk4,⟨bd,bn,[],[],none,0,0,none,0,0,0,0,⟨?_,?_,?_,?_,R.sl_nil _ _ _ _ _,?_,?_,?_,hnm d (by simp),hnm bd (by simp),hnm bn (by simp),newDk_ok h1 h2⟩,rfl⟩,?_⟩
  ·rw[hlen];exact hd4
  ·rw[hmap2];rcases hb with ⟨rfl,rfl⟩|⟨rfl,rfl⟩
   ·exact hb1'
   ·exact hb2'
  ·rw[hmap];rcases hb with ⟨rfl,rfl⟩|⟨rfl,rfl⟩
   ·exact hb2'
   ·exact hb1'
  ·refine Acc.nil' _ fun b hb=>?_
   simp only[List.mem_cons]at hb
   rcases hb with hb|hb|hb|hb
   ·exact(hall b (by simp[hb])).2
   ·exact(hall b (by simp[hb])).2
   ·exact(hall b (by simp[hb])).2
   ·have:=hMn b hb;have:=hk4.size;omega
  ·rcases hb with ⟨rfl,rfl⟩|⟨rfl,rfl⟩<;>omega
  ·rcases hb with ⟨rfl,rfl⟩|⟨rfl,rfl⟩<;>omega
  ·rcases hb with ⟨rfl,rfl⟩|⟨rfl,rfl⟩<;>omega
  ·intro b hb'
   simp[blkL]at hb'
   exact(hall b hb').1
 refine newDisk_vc ⟨fun _=>⟨fun hc=>by omega,fun _=>⟨ini_i64.2 (by omega),fun w1 hk1=>?_,fun w1 hk1=>?_⟩⟩,fun hc=>by omega⟩
 ·refine ev_make ez5 (by omega) (by omega) (by omega) fun w2 hb2 hk2=>⟨_,_,_,rfl,_,hk2,ev_make ez5 (by omega) (by omega) (by omega) fun w3 hb3 hk3=>⟨_,_,_,rfl,_,hk3,fun d hd w4 hk4 hd4=>?_⟩⟩
  rw[e64]at hb2 hb3 hd4
  obtain⟨F,g1,g2,g3⟩:=key w1 w2 w3 w4 _ _ d hk1 rfl hb2 hk2 rfl hb3 hk3 hd hk4 ⟨_,_,.inl ⟨rfl,rfl⟩,hd4⟩
  exact⟨d,F,rfl,g1,g2,g3⟩
 ·refine ev_make ez5 (by omega) (by omega) (by omega) fun w2 hb2 hk2=>⟨_,_,_,rfl,_,hk2,ev_make ez5 (by omega) (by omega) (by omega) fun w3 hb3 hk3=>⟨_,_,_,rfl,_,hk3,fun d hd w4 hk4 hd4=>?_⟩⟩
  rw[e64]at hb2 hb3 hd4
  obtain⟨F,g1,g2,g3⟩:=key w1 w2 w3 w4 _ _ d hk1 rfl hb2 hk2 rfl hb3 hk3 hd hk4 ⟨_,_,.inr ⟨rfl,rfl⟩,hd4⟩
  exact⟨d,F,rfl,g1,g2,g3⟩
end Go.Vc
namespace Go.Vc
open Go Go.Proofs
structure Acc2 (K:List Nat) (w:World) (lo:List Int) (a1:Option Addr) (n1 c1:Nat) (hi:List Int) (a2:Option Addr) (n2 c2:Nat):Prop where
 l:Acc (tI .i64) (blkL a2++K) w lo a1 n1 c1
 h:Acc (tI .i64) (blkL a1++K) w hi a2 n2 c2
section
variable {K:List Nat} {w w':World} {lo lo' hi hi':List Int} {a1 a2 a1' a2':Option Addr} {n1 c1 n2 c2 n1' c1' n2' c2':Nat}
theorem Acc2.kp{N:List Nat}(h:Acc2 K w lo a1 n1 c1 hi a2 n2 c2)(k:KpL N w w')(hs:∀b∈N,b∈K):Acc2 K w' lo a1 n1 c1 hi a2 n2 c2 :=
 ⟨h.l.kp k fun b hb=>List.mem_append_right _ (hs b hb),h.h.kp k fun b hb=>List.mem_append_right _ (hs b hb)⟩
theorem Acc2.kp0(h:Acc2 K w lo a1 n1 c1 hi a2 n2 c2)(k:KpL [] w w'):Acc2 K w' lo a1 n1 c1 hi a2 n2 c2:=h.kp k (by simp)
theorem Acc2.klt(h:Acc2 K w lo a1 n1 c1 hi a2 n2 c2):∀b∈K,b<w.heap.size:=fun b hb=>h.l.mlt b (List.mem_append_right _ hb)
theorem Acc2.weak{K':List Nat}(h:Acc2 K w lo a1 n1 c1 hi a2 n2 c2)(hs:∀b∈K',b∈K):Acc2 K' w lo a1 n1 c1 hi a2 n2 c2:=by
 refine⟨h.l.weak fun b hb=>?_,h.h.weak fun b hb=>?_⟩ <;>
 ·rcases List.mem_append.1 hb with hb|hb
  ·exact List.mem_append_left _ hb
  ·exact List.mem_append_right _ (hs b hb)
theorem Acc2.app1(h:Acc2 K w lo a1 n1 c1 hi a2 n2 c2)(hC:AccC (tI .i64) (blkL a2++K) w a1 lo' a1' n1' c1' w'):Acc2 K w' lo' a1' n1' c1' hi a2 n2 c2:=by
 refine⟨hC.acc,h.h.step hC.kp (fun b hb=>List.mem_append_left _ hb) fun b hb=>?_⟩
 have hsz:=hC.kp.size
 rcases List.mem_append.1 hb with hb|hb
 ·exact⟨(hC.own b hb).imp (fun h=>List.mem_append_left _ h) id,(hC.acc.blk_lt b hb).1⟩
 ·exact⟨.inl (List.mem_append_right _ hb),by have:=h.klt b hb;omega⟩
theorem Acc2.app2(h:Acc2 K w lo a1 n1 c1 hi a2 n2 c2)(hC:AccC (tI .i64) (blkL a1++K) w a2 hi' a2' n2' c2' w'):Acc2 K w' lo a1 n1 c1 hi' a2' n2' c2':=by
 refine⟨h.l.step hC.kp (fun b hb=>List.mem_append_left _ hb) fun b hb=>?_,hC.acc⟩
 have hsz:=hC.kp.size
 rcases List.mem_append.1 hb with hb|hb
 ·exact⟨(hC.own b hb).imp (fun h=>List.mem_append_left _ h) id,(hC.acc.blk_lt b hb).1⟩
 ·exact⟨.inl (List.mem_append_right _ hb),by have:=h.klt b hb;omega⟩
end
theorem whole_ok{M M':List Nat}{w:World}{ds:List Dim}{a:Option Addr}{n c:Nat}(hM:∀b∈M,b<w.heap.size)(hd:R (tSl tDim) M' w ds [.slice a n c])(hz:(dimsE [] ds).1=0):
 Calls Tryz.prog 104 #[.slice a n c] w fun e w'=>∃a1 n1 c1 a2 n2 c2,e=.returned (.tuple #[.agg #[.slice a1 n1 c1,.slice a2 n2 c2],.int .i64 0])∧KpL [] w w'∧(∀b∈blkL a1++blkL a2,w.heap.size≤b)∧
  Acc2 M w' (ds.map (·.lo)) a1 n1 c1 (ds.map (·.hi)) a2 n2 c2:=by
 obtain⟨rfl,hn1,hn2⟩:=hd.sl_len
 have hmx:maxSl=140737488355328:=rfl
 have hds:ds.length≤4:=by
  unfold dimsE at hz
  split at hz
  ·cases hz
  ·omega
 refine whole_vc fun k1 hk1 w1 hw1 hn1'=>⟨(shape_ok (hd.kp0 hw1)).mono ?_⟩
 rw[hz]
 rintro e w2 ⟨rfl,hw2⟩
 refine⟨_,rfl,hw2,fun hne=>absurd rfl hne,fun _ k2 hk2=>?_⟩
 have hk1l:=block_lt hn1'
 have hw02:=hw1.trans hw2
 have s2:=hw2.size
 have s02:=hw02.size
 refine⟨fun vs w'=>∃(i:Nat) (a1:Option Addr) (n1 c1:Nat) (a2:Option Addr) (n2 c2:Nat),vs=[.int .i64 (i:Int),.slice a1 n1 c1,.slice a2 n2 c2]∧i≤ds.length∧KpL [] w w'∧(∀b∈blkL a1++blkL a2,w.heap.size≤b)∧k2<w'.heap.size∧
  Acc2 (k2::k1::M) w' ((ds.take i).map (·.lo)) a1 n1 c1 ((ds.take i).map (·.hi)) a2 n2 c2,fun vs _=>match vs with|.int _ i::_=>ds.length - i.toNat|_=>0,fun w4 hw4 hkn4=>?_,?_⟩
 ·have hKl:∀b∈k2::k1::M,b<w4.heap.size:=by
   have s4:=hw4.size
   intro b hb
   rcases List.mem_cons.1 hb with rfl|hb
   ·exact block_lt hkn4.1
   ·rcases List.mem_cons.1 hb with rfl|hb
    ·omega
    ·have:=hM b hb;omega
  exact⟨0,_,_,_,_,_,_,rfl,by omega,hw02.trans hw4,by simp[blkL],block_lt hkn4.1,⟨Acc.nil' _ (by simpa[blkL]using hKl),Acc.nil' _ (by simpa[blkL]using hKl)⟩⟩
 rintro n2 b1 p1 q1 b2 p2 q2 w5 hkn5 ⟨i,_,_,_,_,_,_,hv,hi,hw5,hnew,hk2l,hA⟩
 simp only[List.cons.injEq,Value.int.injEq,Value.slice.injEq,true_and,and_true]at hv
 obtain⟨rfl,⟨rfl,rfl,rfl⟩,rfl,rfl,rfl⟩:=hv
 have hl1:=hA.l.len
 have hl2:=hA.h.len
 have hb1:∀b∈blkL b1,b<w5.heap.size:=fun b hb=>(hA.l.blk_lt b hb).1
 have hb2:∀b∈blkL b2,b<w5.heap.size:=fun b hb=>(hA.h.blk_lt b hb).1
 constructor
 ·intro hlt
  have g1:i<ds.length:=by omega
  simp only[List.length_map,List.length_take]at hl1 hl2
  obtain⟨ad,cs,rfl,hv1,hld1,_,_⟩:=(hd.kp0 hw5).sl_get g1
  obtain⟨rfl,hok1⟩:=hv1.dim
  have hRlo:∀M w',R (tI .i64) M w' ds[i].lo [.int .i64 ds[i].lo]:=fun _ _=>⟨rfl,hok1.2.1⟩
  have hRhi:∀M w',R (tI .i64) M w' ds[i].hi [.int .i64 ds[i].hi]:=fun _ _=>⟨rfl,hok1.2.2⟩
  have htk:ds.take (i+1)=ds.take i++[ds[i]]:=(List.take_append_getElem g1).symm
  have dec:ds.length - ((i:Int)+1).toNat<ds.length - (i:Int).toNat:=by omega
  have fin:∀{wa wb wc wd we:World} {b3 b4:Option Addr} {m3 r3 m4 r4:Nat},KpL [] w5 wa→AccC (tI .i64) (blkL b2++(k2::k1::M)) wa b1 ((ds.take i).map (·.lo)++[ds[i].lo]) b3 m3 r3 wb→KpL [] wb wc→
   AccC (tI .i64) (blkL b3++(k2::k1::M)) wc b2 ((ds.take i).map (·.hi)++[ds[i].hi]) b4 m4 r4 wd→KpL [k2,k2] wd we→
   ∃(i':Nat) (a1:Option Addr) (n1 c1:Nat) (a2:Option Addr) (n2 c2:Nat),[Value.int .i64 ((i:Int)+1),.slice b3 m3 r3,.slice b4 m4 r4]=[.int .i64 (i':Int),.slice a1 n1 c1,.slice a2 n2 c2]∧i'≤ds.length∧KpL [] w we∧(∀b∈blkL a1++blkL a2,w.heap.size≤b)∧k2<we.heap.size∧
    Acc2 (k2::k1::M) we ((ds.take i').map (·.lo)) a1 n1 c1 ((ds.take i').map (·.hi)) a2 n2 c2:=by
   intro wa wb wc wd we b3 b4 m3 r3 m4 r4 ha hC1 hc hC2 hkk
   have s0:=hw5.size
   have sa:=ha.size
   have sb:=hC1.kp.size
   have sc:=hc.size
   have sd:=hC2.kp.size
   have se:=hkk.size
   have hA1:=((hA.kp0 ha).app1 hC1).kp0 hc
   have hA2:=(hA1.app2 hC2).kp hkk (by simp)
   have hnew3:∀b∈blkL b3,w.heap.size≤b:=fun b hb=>by
    rcases hC1.own b hb with h|h
    ·exact hnew b (List.mem_append_left _ h)
    ·omega
   refine⟨i+1,_,_,_,_,_,_,rfl,by omega,?_,fun b hb=>?_,by omega,?_⟩
   ·have hk1:KpL [] w wb:=(hw5.trans ha).more hC1.kp fun x hx=>.inr (hnew x (List.mem_append_left _ hx))
    have hk2':KpL [] w wd:=(hk1.trans hc).more hC2.kp fun x hx=>.inr (hnew x (List.mem_append_right _ hx))
    exact hk2'.more hkk fun x hx=>by simp at hx;subst hx;exact .inr (by omega)
   ·rcases List.mem_append.1 hb with hb|hb
    ·exact hnew3 b hb
    ·rcases hC2.own b hb with h|h
     ·exact hnew b (List.mem_append_right _ h)
     ·omega
   ·rw[htk,List.map_append,List.map_append]
    exact hA2
  have nin:∀{x:Nat} {l:List Nat},(∀b∈l,b<w5.heap.size)→w5.heap.size≤x→NotIn x l:=fun h1 h2=>⟨fun hm=>by have:=h1 _ hm;omega⟩
  refine⟨ad,rfl,by omega,hlt,fun _=>⟨_,_,_,hld1,fun k7 hk7=>⟨fun k8 hk8=>⟨fun w6 hw6 hkn6=>?_,fun k14 hk14 w11 hw11 hkn11=>?_⟩,fun k19 hk19 k20 hk20 w15 hw15 hkn15=>?_⟩⟩⟩
  ·have hA6:=hA.kp0 hw6
   refine ev_append1 apI hA6.l hkn6.1 (hRlo _ _) (by omega) fun b3 r3 w7 hC1=>⟨_,_,_,rfl,_,hC1.kp,⟨nin hb1 hk8,nin hb1 hk7,hA6.l.out (by simp),hA6.l.out (by simp)⟩,fun hkn7=>⟨⟨ldA_blk hkn7.2.1 2 [_] rfl,ldA_blk hkn7.2.2.1 1 [_] rfl,trivial⟩,fun k11 hk11 w8 hw8 hkn8=>?_⟩⟩
   have hA8:=(hA6.app1 hC1).kp0 hw8
   have hn3:∀{x},x∈[k8,k7]→NotIn x (blkL b2):=fun hx=>by
    simp at hx
    rcases hx with rfl|rfl
    ·exact nin hb2 hk8
    ·exact nin hb2 hk7
   have s6:=hw6.size
   have s7:=hC1.kp.size
   refine ev_append1 apI hA8.h hkn8.1 (hRhi _ _) (by omega) fun b4 r4 w9 hC2=>⟨_,_,_,rfl,_,hC2.kp,⟨nin hb2 (by omega),hn3 (by simp),hn3 (by simp),hA8.h.out (by simp),hA8.h.out (by simp)⟩,ini_i64.2 (by omega),fun w10 hw10 _=>⟨fin hw6 hC1 hw8 hC2 hw10,dec⟩⟩
  ·have hA11:=hA.kp0 hw11
   refine ev_append1 apI hA11.l hkn11.2.1 (hRlo _ _) (by omega) fun b3 r3 w12 hC1=>⟨_,_,_,rfl,_,hC1.kp,⟨nin hb1 hk14,nin hb1 hk8,nin hb1 hk7,hA11.l.out (by simp),hA11.l.out (by simp)⟩,fun hkn12=>⟨⟨ldA_blk hkn12.2.2.2.1 1 [_] rfl,trivial⟩,fun _=>?_⟩⟩
   have hA12:=hA11.app1 hC1
   refine ev_append1 apI hA12.h hkn12.1 (hRhi _ _) (by omega) fun b4 r4 w13 hC2=>⟨_,_,_,rfl,_,hC2.kp,⟨nin hb2 hk14,nin hb2 hk8,nin hb2 hk7,hA12.h.out (by simp),hA12.h.out (by simp)⟩,ini_i64.2 (by omega),fun w14 hw14 _=>⟨fin hw11 hC1 (KpL.refl _ _) hC2 hw14,dec⟩⟩
  ·have hA15:=hA.kp0 hw15
   refine ev_append1 apI hA15.l hkn15.1 (hRlo _ _) (by omega) fun b3 r3 w16 hC1=>⟨_,_,_,rfl,_,hC1.kp,⟨nin hb1 hk20,nin hb1 hk19,nin hb1 hk7,hA15.l.out (by simp),hA15.l.out (by simp)⟩,fun hkn16=>⟨⟨ldA_blk hkn16.2.2.2.1 1 [_] rfl,trivial⟩,fun _=>?_⟩⟩
   have hA16:=hA15.app1 hC1
   refine ev_append1 apI hA16.h hkn16.2.1 (hRhi _ _) (by omega) fun b4 r4 w17 hC2=>⟨_,_,_,rfl,_,hC2.kp,⟨nin hb2 hk20,nin hb2 hk19,nin hb2 hk7,hA16.h.out (by simp),hA16.h.out (by simp)⟩,ini_i64.2 (by omega),fun w18 hw18 _=>⟨fin hw15 hC1 (KpL.refl _ _) hC2 hw18,dec⟩⟩
 ·intro hge w19 hw19 _
  have hie:i=ds.length:=by omega
  rw[hie,List.take_length]at hA
  exact⟨_,_,_,_,_,_,rfl,hw5.more hw19 (fun x hx=>by simp at hx;subst hx;exact .inr hk1),hnew,(hA.kp hw19 (by simp)).weak fun b hb=>by simp[hb]⟩
end Go.Vc
namespace Go.Vc
open Go Go.Proofs
theorem cmpI_rng(x y:Int):cmpI x y = -1∨cmpI x y=0∨cmpI x y=1:=by unfold cmpI;split;simp;split<;>simp
theorem cmpI_zero{x y:Int}:cmpI x y=0↔x=y:=by
 unfold cmpI
 split
 ·simp;omega
 ·split<;>simp<;>omega
theorem cmpI_swap(x y:Int):cmpI y x = - cmpI x y:=by unfold cmpI;split<;>split<;>(try split)<;>omega
theorem cmpI_neg{x y:Int}:cmpI x y<0↔x<y:=by
 unfold cmpI
 split
 ·simp[*]
 ·split<;>simp<;>omega
theorem cmpL_rng:∀(x y:List Int),cmpL x y = -1∨cmpL x y=0∨cmpL x y=1
 |[],[]=>by simp[cmpL]
 |[],_::_=>by simp[cmpL]
 |_::_,[]=>by simp[cmpL]
 |x::r,y::s=>by
  rw[cmpL]
  split
  ·exact cmpI_rng x y
  ·exact cmpL_rng r s
theorem cmpL_swap:∀(x y:List Int),cmpL y x = - cmpL x y
 |[],[]=>by simp[cmpL]
 |[],_::_=>by simp[cmpL]
 |_::_,[]=>by simp[cmpL]
 |x::r,y::s=>by
  rw[cmpL,cmpL,cmpI_swap x y,cmpL_swap r s]
  by_cases h:cmpI x y=0
  ·rw[h];simp
  ·rw[if_pos (by omega),if_pos h]
theorem cmpL_zero:∀{x y:List Int},cmpL x y=0↔x=y
 |[],[]=>by simp[cmpL]
 |[],_::_=>by simp[cmpL]
 |_::_,[]=>by simp[cmpL]
 |x::r,y::s=>by
  rw[cmpL]
  by_cases h:cmpI x y=0
  ·rw[if_neg (by simp[h]),cmpL_zero,cmpI_zero.1 h];simp
  ·rw[if_pos h]
   have:x≠y:=fun e=>h (cmpI_zero.2 e)
   simp[h,this]
theorem cmpL_trans:∀{x y z:List Int},cmpL x y≤0→cmpL y z≤0→cmpL x z≤0
 |[],[],[],_,_=>by simp[cmpL]
 |[],[],_::_,_,_=>by simp[cmpL]
 |[],_::_,[],_,h=>by simp[cmpL]at h
 |[],_::_,_::_,_,_=>by simp[cmpL]
 |_::_,[],_,h,_=>by simp[cmpL]at h
 |_::_,_::_,[],_,h=>by simp[cmpL]at h
 |x::r,y::s,z::t,h1,h2=>by
  rw[cmpL]at h1 h2 ⊢
  by_cases e1:cmpI x y=0
  ·have:=cmpI_zero.1 e1
   subst this
   rw[if_neg (by simp[e1])]at h1
   by_cases e2:cmpI x z=0
   ·rw[if_neg (by simp[e2])]at h2 ⊢
    exact cmpL_trans h1 h2
   ·rw[if_pos e2]at h2 ⊢;exact h2
  ·rw[if_pos e1]at h1
   have hxy:x<y:=cmpI_neg.1 (by omega)
   by_cases e2:cmpI y z=0
   ·have:=cmpI_zero.1 e2
    subst this
    rw[if_pos e1];exact h1
   ·rw[if_pos e2]at h2
    have hyz:y<z:=cmpI_neg.1 (by omega)
    have:cmpI x z<0:=cmpI_neg.2 (by omega)
    rw[if_pos (by omega)];omega
structure RC where
 a1:Option Addr
 n1:Nat
 c1:Nat
 a2:Option Addr
 n2:Nat
 c2:Nat
 c:Cell
def RC.cs(x:RC):List Value:=[.slice x.a1 x.n1 x.c1,.slice x.a2 x.n2 x.c2]
def ltC(x y:RC):Prop:=cmpL x.c.at_ y.c.at_<0
def leC(x y:RC):Prop:=cmpL x.c.at_ y.c.at_≤0
theorem leC_trans{x y z:RC}(h1:leC x y)(h2:leC y z):leC x z:=cmpL_trans h1 h2
theorem leC_of_lt{x y:RC}(h:ltC x y):leC x y:=by unfold ltC leC at *;omega
theorem leC_of_nlt{x y:RC}(h:¬ltC y x):leC x y:=by
 unfold ltC leC at *
 rw[cmpL_swap y.c.at_ x.c.at_]
 omega
theorem nlt_of_le{x y:RC}(h:leC x y):¬ltC y x:=by
 unfold ltC leC at *
 rw[cmpL_swap x.c.at_ y.c.at_]
 omega
theorem lt_le{x y z:RC}(h1:ltC x y)(h2:leC y z):ltC x z:=by
 apply Classical.byContradiction
 intro h
 exact nlt_of_le (leC_trans h2 (leC_of_nlt h)) h1
theorem le_lt{x y z:RC}(h1:leC x y)(h2:ltC y z):ltC x z:=by
 apply Classical.byContradiction
 intro h
 exact nlt_of_le (leC_trans (leC_of_nlt h) h1) h2
abbrev PW(l:List RC):Prop:=l.Pairwise leC
section
variable {α:Type}
theorem set_mid{P R:List α}{n:Nat}(hn:n=P.length)(x y:α):(P++x::R).set n y=P++y::R:=by
 subst hn
 rw[List.set_append_right _ _ (Nat.le_refl _)]
 simp
theorem get_mid{P R:List α}{n:Nat}(hn:n=P.length)(x:α):(P++x::R)[n]?=some x:=by
 subst hn
 simp
theorem len_split{l:List α}{n:Nat}(h:n≤l.length):∃A B,l=A++B∧A.length=n:=⟨l.take n,l.drop n,(List.take_append_drop n l).symm,by simp;omega⟩
theorem len_snoc{l:List α}(h:0<l.length):∃A x,l=A++[x]:=by
 have hne:l≠[]:=by rintro rfl;simp at h
 exact⟨_,_,(List.dropLast_concat_getLast hne).symm⟩
theorem len_cons{l:List α}(h:0<l.length):∃x A,l=x::A:=by
 cases l with
 |nil=>simp at h
 |cons x A=>exact⟨x,A,rfl⟩
theorem len_zero{l:List α}(h:l.length=0):l=[]:=List.length_eq_zero_iff.1 h
end
theorem pw_get{l:List RC}(h:PW l){i j:Nat}{x y:RC}(hij:i≤j)(hx:l[i]?=some x)(hy:l[j]?=some y):leC x y:=by
 obtain⟨hi,rfl⟩:=List.getElem?_eq_some_iff.1 hx
 obtain⟨hj,rfl⟩:=List.getElem?_eq_some_iff.1 hy
 rcases Nat.lt_or_ge i j with h1|h1
 ·exact List.pairwise_iff_getElem.1 h i j hi hj h1
 ·have:i=j:=by omega
  subst this
  unfold leC
  rw[cmpL_zero.2 rfl]
  exact Int.le_refl 0
theorem pw_app{A B:List RC}:PW (A++B)↔PW A∧PW B∧∀x∈A,∀y∈B,leC x y:=List.pairwise_append
theorem pw_ins{A B:List RC}{v:RC}(h:PW (A++B))(h1:∀x∈A,leC x v)(h2:∀x∈B,leC v x):PW (A++v::B):=by
 obtain⟨ha,hb,hab⟩:=pw_app.1 h
 refine pw_app.2 ⟨ha,List.pairwise_cons.2 ⟨h2,hb⟩,fun x hx y hy=>?_⟩
 rcases List.mem_cons.1 hy with rfl|hy
 ·exact h1 x hx
 ·exact hab x hx y hy
def Blk(s lo hi:Nat)(xs:List RC):Prop:=∀i j x y,lo≤i→i<j→j<hi→i / s=j / s→xs[i]?=some x→xs[j]?=some y→leC x y
theorem Blk.seg{s lo hi a b:Nat}{P S Q:List RC}(h:Blk s lo hi (P++(S++Q)))(hP:P.length=a)(hS:a+S.length=b)(hlo:lo≤a)(hhi:b≤hi)(hb:∀i,a≤i→i<b→i / s=a / s):PW S:=by
 refine List.pairwise_iff_getElem.2 fun i j hi' hj hij=>?_
 refine h (a+i) (a+j) _ _ (by omega) (by omega) (by omega) ?_ ?_ ?_
 ·rw[hb (a+i) (by omega) (by omega),hb (a+j) (by omega) (by omega)]
 ·rw[List.getElem?_append_right (by omega),show a+i - P.length=i from by omega,List.getElem?_append_left hi',List.getElem?_eq_getElem hi']
 ·rw[List.getElem?_append_right (by omega),show a+j - P.length=j from by omega,List.getElem?_append_left hj,List.getElem?_eq_getElem hj]
theorem Blk.put{s lo a b:Nat}{P S S' Q:List RC}(h:Blk s lo a (P++(S++Q)))(hP:P.length=a)(hl:S'.length=S.length)(hS:a+S.length=b)(hs:PW S')(hb:∀i j,i<a→a≤j→j<b→i / s≠j / s):Blk s lo b (P++(S'++Q)):=by
 intro i j x y h0 hij hj he hx hy
 by_cases h1:j<a
 ·refine h i j x y h0 hij h1 he ?_ ?_
  ·rw[List.getElem?_append_left (by omega)]at hx ⊢;exact hx
  ·rw[List.getElem?_append_left (by omega)]at hy ⊢;exact hy
 ·by_cases h2:i<a
  ·exact absurd he (hb i j h2 (by omega) hj)
  ·rw[List.getElem?_append_right (by omega),List.getElem?_append_left (by omega)]at hx hy
   exact pw_get hs (by omega) hx hy
theorem Blk.rest{s hi a b:Nat}{P S S' Q:List RC}(h:Blk s a hi (P++(S++Q)))(hl:S'.length=S.length)(hP:P.length=a)(hS:a+S.length=b):Blk s b hi (P++(S'++Q)):=by
 intro i j x y h0 hij hj he hx hy
 refine h i j x y (by omega) hij hj he ?_ ?_
 ·rw[List.getElem?_append_right (by omega),List.getElem?_append_right (by omega)]at hx ⊢
  rw[←hl];exact hx
 ·rw[List.getElem?_append_right (by omega),List.getElem?_append_right (by omega)]at hy ⊢
  rw[←hl];exact hy
theorem div_blk{s a i:Nat}(hs:0<s)(ha:a%s=0)(h1:a≤i)(h2:i<a+s):i / s=a / s:=by
 obtain⟨k,rfl⟩:=Nat.dvd_of_mod_eq_zero ha
 rw[Nat.mul_div_cancel_left k hs]
 exact Nat.div_eq_of_lt_le (by rw[Nat.mul_comm];exact h1) (by rw[Nat.add_mul,Nat.one_mul,Nat.mul_comm];exact h2)
theorem div_off{s a i j:Nat}(hs:0<s)(ha:a%s=0)(h1:i<a)(h2:a≤j):i / s≠j / s:=by
 obtain⟨k,rfl⟩:=Nat.dvd_of_mod_eq_zero ha
 have e1:i / s<k:=Nat.div_lt_of_lt_mul h1
 have e2:k≤j / s:=(Nat.le_div_iff_mul_le hs).2 (by rw[Nat.mul_comm];exact h2)
 omega
end Go.Vc
namespace Go.Vc
open Go Go.Proofs
open Go.Value Go.Ending Go.IntKind
set_option maxRecDepth 100000
theorem insertion_vc{aa:Option Addr}{an ac:Nat}{x:Int}{y:Int}{f:Nat}{fi ca:Array Value}{w:World}{R:Ending→World→Prop}
 (h :
 InI i64 (x+1)∧
 ∃(P1:List Value→World→Prop) (P2:List Value→World→Nat),P1 [int i64 (x+1)] w∧
 ∀n1 w1,P1 [int i64 n1] w1→
 (n1<y→
 ∃(P3:List Value→World→Prop) (P4:List Value→World→Nat),P3 [int i64 n1] w1∧
 ∀n2 w2,P3 [int i64 n2] w2→
 (x<n2→
 ∃d1,aa=some d1∧
 0≤n2∧
 n2<(↑an:Int)∧
 ∃a1 k1 k2 a2 k3 k4,LdA w2 (d1.add (n2.toNat*2)) [slice a1 k1 k2,slice a2 k3 k4]∧
 InI i64 (n2 - 1)∧
 ∃d2,aa=some d2∧
 0≤n2 - 1∧
 n2 - (1:Int)<(↑an:Int)∧
 ∃a3 k5 k6 a4 k7 k8,LdA w2 (d2.add ((n2 - 1).toNat*2)) [slice a3 k5 k6,slice a4 k7 k8]∧
 FuncOk Tryz.prog f∧
 ∀w3,KpL [] w2 w3→
 CallW Tryz.prog f ((fi.toList++[agg #[slice a1 k1 k2,slice a2 k3 k4],agg #[slice a3 k5 k6,slice a4 k7 k8]]++ca.toList).toArray) w3 fun e1 w4 =>
 ∃n3,e1=returned (int i64 n3)∧
 ∃l1,KpL l1 w3 w4∧
 (n3<0→
 InI i64 (n2 - 1)∧
 InI i64 (n2 - 1)∧
 ∃d3,aa=some d3∧
 0≤n2 - 1∧
 n2 - (1:Int)<(↑an:Int)∧
 ∃a5 k9 k10 a6 k11 k12,LdA w4 (d3.add ((n2 - 1).toNat*2)) [slice a5 k9 k10,slice a6 k11 k12]∧
 ∃d4,aa=some d4∧
 0≤n2∧
 n2<(↑an:Int)∧
 ∃a7 k13 k14 a8 k15 k16,LdA w4 (d4.add (n2.toNat*2)) [slice a7 k13 k14,slice a8 k15 k16]∧
 ∃d5,aa=some d5∧
 0≤n2∧
 n2<(↑an:Int)∧
 ∀w5,KpL [] w4 w5→
 (∃l2,LdA w5 (d5.add (n2.toNat*2)) l2∧
 l2.length=2)∧
 NotFrozen w5 (d5.add (n2.toNat*2)) 2∧
 ∀w6,w6=stA w5 (d5.add (n2.toNat*2)) [slice a5 k9 k10,slice a6 k11 k12] 0→
 ∃d6,aa=some d6∧
 0≤n2 - 1∧
 n2 - (1:Int)<(↑an:Int)∧
 (∃l3,LdA w6 (d6.add ((n2 - 1).toNat*2)) l3∧
 l3.length=2)∧
 NotFrozen w6 (d6.add ((n2 - 1).toNat*2)) 2∧
 ∀w7,w7=stA w6 (d6.add ((n2 - 1).toNat*2)) [slice a7 k13 k14,slice a8 k15 k16] 0→
 InI i64 (n2 - 1)∧
 P3 [int i64 (n2 - 1)] w7∧
 P4 [int i64 (n2 - 1)] w7<P4 [int i64 n2] w2)∧
 (¬n3<0→
 InI i64 (n1+1)∧
 P1 [int i64 (n1+1)] w4∧
 P2 [int i64 (n1+1)] w4<P2 [int i64 n1] w1))∧
 (¬x<n2→
 InI i64 (n1+1)∧
 ∀w8,KpL [] w2 w8→
 P1 [int i64 (n1+1)] w8∧
 P2 [int i64 (n1+1)] w8<P2 [int i64 n1] w1))∧
 (¬n1<y→
 R (returned (tuple #[])) w1)):Calls Tryz.prog 210 #[slice aa an ac,int i64 x,int i64 y,func (Fn.func f) fi ca] w R :=
 fnc0 (an:={ loops:=[⟨4,[9],[18,19,20,21,22,23,24,25,26,27,28,29,30,31,32,33,34,35,36,37,38,39,40,41,42,43,44,45,46,47,48,49,50,51,52],[0]⟩,⟨1,[8],[9,12,13,14,15,16,17,18,19,20,21,22,23,24,25,26,27,28,29,30,31,32,33,34,35,36,37,38,39,40,41,42,43,44,45,46,47,48,49,50,51,52],[0]⟩] }) (args:=[.a (.c (.v (.slice aa an ac))),.a (.c (.v (.int .i64 x))),.a (.c (.v (.int .i64 y))),.a (.c (.v (.func (.func f) fi ca)))]) Tryz_ok Tryz.func210 (by kernel_rfl) rfl rfl h
theorem swapRange_vc{aa:Option Addr}{an ac:Nat}{x:Int}{y:Int}{z:Int}{f:Nat}{fi ca:Array Value}{w:World}{R:Ending→World→Prop}
 (h :
 ∃(P1:List Value→World→Prop) (P2:List Value→World→Nat),P1 [int i64 0] w∧
 ∀n1 w1,P1 [int i64 n1] w1→
 (n1<z→
 InI i64 (x+n1)∧
 InI i64 (y+n1)∧
 InI i64 (y+n1)∧
 ∃d1,aa=some d1∧
 0≤y+n1∧
 y+n1<(↑an:Int)∧
 ∃a1 k1 k2 a2 k3 k4,LdA w1 (d1.add ((y+n1).toNat*2)) [slice a1 k1 k2,slice a2 k3 k4]∧
 InI i64 (x+n1)∧
 ∃d2,aa=some d2∧
 0≤x+n1∧
 x+n1<(↑an:Int)∧
 ∃a3 k5 k6 a4 k7 k8,LdA w1 (d2.add ((x+n1).toNat*2)) [slice a3 k5 k6,slice a4 k7 k8]∧
 ∃d3,aa=some d3∧
 0≤x+n1∧
 x+n1<(↑an:Int)∧
 ∀w2,KpL [] w1 w2→
 (∃l1,LdA w2 (d3.add ((x+n1).toNat*2)) l1∧
 l1.length=2)∧
 NotFrozen w2 (d3.add ((x+n1).toNat*2)) 2∧
 ∀w3,w3=stA w2 (d3.add ((x+n1).toNat*2)) [slice a1 k1 k2,slice a2 k3 k4] 0→
 ∃d4,aa=some d4∧
 0≤y+n1∧
 y+n1<(↑an:Int)∧
 (∃l2,LdA w3 (d4.add ((y+n1).toNat*2)) l2∧
 l2.length=2)∧
 NotFrozen w3 (d4.add ((y+n1).toNat*2)) 2∧
 ∀w4,w4=stA w3 (d4.add ((y+n1).toNat*2)) [slice a3 k5 k6,slice a4 k7 k8] 0→
 InI i64 (n1+1)∧
 P1 [int i64 (n1+1)] w4∧
 P2 [int i64 (n1+1)] w4<P2 [int i64 n1] w1)∧
 (¬n1<z→
 R (returned (tuple #[])) w1)):Calls Tryz.prog 221 #[slice aa an ac,int i64 x,int i64 y,int i64 z,func (Fn.func f) fi ca] w R :=
 fnc0 (an:={ loops:=[⟨1,[10],[11,12,13,14,15,16,17,18,19,20,21,22,23,24,25,26,27,28,29,30,31,32,33,34,35,36,37],[0]⟩] }) (args:=[.a (.c (.v (.slice aa an ac))),.a (.c (.v (.int .i64 x))),.a (.c (.v (.int .i64 y))),.a (.c (.v (.int .i64 z))),.a (.c (.v (.func (.func f) fi ca)))]) Tryz_ok Tryz.func221 (by kernel_rfl) rfl rfl h
theorem rotate_vc{aa:Option Addr}{an ac:Nat}{x:Int}{y:Int}{z:Int}{f:Nat}{fi ca:Array Value}{w:World}{R:Ending→World→Prop}
 (h :
 InI i64 (y - x)∧
 InI i64 (z - y)∧
 ∃(P1:List Value→World→Prop) (P2:List Value→World→Nat),P1 [int i64 (y - x),int i64 (z - y)] w∧
 ∀n1 n2 w1,P1 [int i64 n1,int i64 n2] w1→
 (n1≠n2→
 (n2<n1→
 InI i64 (y - n1)∧
 CallW Tryz.prog 221 #[slice aa an ac,int i64 (y - n1),int i64 y,int i64 n2,func (Fn.func f) fi ca] w1 fun e1 w2 =>
 e1=returned (tuple #[])∧
 ∃l1,KpL l1 w1 w2∧
 InI i64 (n1 - n2)∧
 P1 [int i64 (n1 - n2),int i64 n2] w2∧
 P2 [int i64 (n1 - n2),int i64 n2] w2<P2 [int i64 n1,int i64 n2] w1)∧
 (¬n2<n1→
 InI i64 (y - n1)∧
 InI i64 (y+n2)∧
 InI i64 (y+n2 - n1)∧
 CallW Tryz.prog 221 #[slice aa an ac,int i64 (y - n1),int i64 (y+n2 - n1),int i64 n1,func (Fn.func f) fi ca] w1 fun e2 w3 =>
 e2=returned (tuple #[])∧
 ∃l2,KpL l2 w1 w3∧
 InI i64 (n2 - n1)∧
 P1 [int i64 n1,int i64 (n2 - n1)] w3∧
 P2 [int i64 n1,int i64 (n2 - n1)] w3<P2 [int i64 n1,int i64 n2] w1))∧
 (¬n1≠n2→
 InI i64 (y - n1)∧
 CallW Tryz.prog 221 #[slice aa an ac,int i64 (y - n1),int i64 y,int i64 n1,func (Fn.func f) fi ca] w1 fun e3 w4 =>
 e3=returned (tuple #[])∧
 ∃l3,KpL l3 w1 w4∧
 R (returned (tuple #[])) w4)):Calls Tryz.prog 216 #[slice aa an ac,int i64 x,int i64 y,int i64 z,func (Fn.func f) fi ca] w R :=
 fnc0 (an:={ loops:=[⟨2,[10,11],[18,19,20,21,22,23,24,25,26,27,28,29,30,31,32,33,34,35,36,37,38,39,40,41,42,43,44,45,46,47,48,49],[]⟩],muts:=[221] }) (args:=[.a (.c (.v (.slice aa an ac))),.a (.c (.v (.int .i64 x))),.a (.c (.v (.int .i64 y))),.a (.c (.v (.int .i64 z))),.a (.c (.v (.func (.func f) fi ca)))]) Tryz_ok Tryz.func216 (by kernel_rfl) rfl rfl h
theorem symMerge_vc{aa:Option Addr}{an ac:Nat}{x:Int}{y:Int}{z:Int}{f:Nat}{fi ca:Array Value}{w:World}{R:Ending→World→Prop}
 (h :
 InI i64 (y - x)∧
 (y - x=1→
 ∃(P1:List Value→World→Prop) (P2:List Value→World→Nat),P1 [int i64 y,int i64 z] w∧
 ∀n1 n2 w1,P1 [int i64 n1,int i64 n2] w1→
 (n1<n2→
 InI i64 (n1+n2)∧
 ∃d1,aa=some d1∧
 (0:Int)≤i64.wrap ((u64.wrap (n1+n2)).fdiv (↑((2:Nat) ^ (1:Nat)):Int))∧
 i64.wrap ((u64.wrap (n1+n2)).fdiv (↑((2:Nat) ^ (1:Nat)):Int))<(↑an:Int)∧
 ∃a1 k1 k2 a2 k3 k4,LdA w1 (d1.add ((i64.wrap ((u64.wrap (n1+n2)).fdiv (↑((2:Nat) ^ (1:Nat)):Int))).toNat*(2:Nat))) [slice a1 k1 k2,slice a2 k3 k4]∧
 ∃d2,aa=some d2∧
 0≤x∧
 x<(↑an:Int)∧
 ∃a3 k5 k6 a4 k7 k8,LdA w1 (d2.add (x.toNat*2)) [slice a3 k5 k6,slice a4 k7 k8]∧
 FuncOk Tryz.prog f∧
 ∀w2,KpL [] w1 w2→
 CallW Tryz.prog f ((fi.toList++[agg #[slice a1 k1 k2,slice a2 k3 k4],agg #[slice a3 k5 k6,slice a4 k7 k8]]++ca.toList).toArray) w2 fun e1 w3 =>
 ∃n3,e1=returned (int i64 n3)∧
 ∃l1,KpL l1 w2 w3∧
 (n3<0→
 InI i64 (i64.wrap ((u64.wrap (n1+n2)).fdiv (↑((2:Nat) ^ (1:Nat)):Int))+(1:Int))∧
 P1 [int i64 (i64.wrap ((u64.wrap (n1+n2)).fdiv (↑((2:Nat) ^ (1:Nat)):Int))+(1:Int)),int i64 n2] w3∧
 P2 [int i64 (i64.wrap ((u64.wrap (n1+n2)).fdiv (↑((2:Nat) ^ (1:Nat)):Int))+(1:Int)),int i64 n2] w3<P2 [int i64 n1,int i64 n2] w1)∧
 (¬n3<0→
 P1 [int i64 n1,int i64 (i64.wrap ((u64.wrap (n1+n2)).fdiv (↑((2:Nat) ^ (1:Nat)):Int)))] w3∧
 P2 [int i64 n1,int i64 (i64.wrap ((u64.wrap (n1+n2)).fdiv (↑((2:Nat) ^ (1:Nat)):Int)))] w3<P2 [int i64 n1,int i64 n2] w1))∧
 (¬n1<n2→
 ∃(P3:List Value→World→Prop) (P4:List Value→World→Nat),P3 [int i64 x] w1∧
 ∀n4 w4,P3 [int i64 n4] w4→
 InI i64 (n1 - 1)∧
 (n4<n1 - 1→
 InI i64 (n4+1)∧
 InI i64 (n4+1)∧
 ∃d3,aa=some d3∧
 0≤n4+1∧
 n4+(1:Int)<(↑an:Int)∧
 ∃a5 k9 k10 a6 k11 k12,LdA w4 (d3.add ((n4+1).toNat*2)) [slice a5 k9 k10,slice a6 k11 k12]∧
 ∃d4,aa=some d4∧
 0≤n4∧
 n4<(↑an:Int)∧
 ∃a7 k13 k14 a8 k15 k16,LdA w4 (d4.add (n4.toNat*2)) [slice a7 k13 k14,slice a8 k15 k16]∧
 ∃d5,aa=some d5∧
 0≤n4∧
 n4<(↑an:Int)∧
 ∀w5,KpL [] w4 w5→
 (∃l2,LdA w5 (d5.add (n4.toNat*2)) l2∧
 l2.length=2)∧
 NotFrozen w5 (d5.add (n4.toNat*2)) 2∧
 ∀w6,w6=stA w5 (d5.add (n4.toNat*2)) [slice a5 k9 k10,slice a6 k11 k12] 0→
 ∃d6,aa=some d6∧
 0≤n4+1∧
 n4+(1:Int)<(↑an:Int)∧
 (∃l3,LdA w6 (d6.add ((n4+1).toNat*2)) l3∧
 l3.length=2)∧
 NotFrozen w6 (d6.add ((n4+1).toNat*2)) 2∧
 ∀w7,w7=stA w6 (d6.add ((n4+1).toNat*2)) [slice a7 k13 k14,slice a8 k15 k16] 0→
 InI i64 (n4+1)∧
 P3 [int i64 (n4+1)] w7∧
 P4 [int i64 (n4+1)] w7<P4 [int i64 n4] w4)∧
 (¬n4<n1 - 1→
 R (returned (tuple #[])) w4)))∧
 (¬y - x=1→
 InI i64 (z - y)∧
 (z - y=1→
 ∃(P5:List Value→World→Prop) (P6:List Value→World→Nat),P5 [int i64 x,int i64 y] w∧
 ∀n5 n6 w8,P5 [int i64 n5,int i64 n6] w8→
 (n5<n6→
 InI i64 (n5+n6)∧
 ∃d7,aa=some d7∧
 0≤y∧
 y<(↑an:Int)∧
 ∃a9 k17 k18 a10 k19 k20,LdA w8 (d7.add (y.toNat*2)) [slice a9 k17 k18,slice a10 k19 k20]∧
 ∃d8,aa=some d8∧
 (0:Int)≤i64.wrap ((u64.wrap (n5+n6)).fdiv (↑((2:Nat) ^ (1:Nat)):Int))∧
 i64.wrap ((u64.wrap (n5+n6)).fdiv (↑((2:Nat) ^ (1:Nat)):Int))<(↑an:Int)∧
 ∃a11 k21 k22 a12 k23 k24,LdA w8 (d8.add ((i64.wrap ((u64.wrap (n5+n6)).fdiv (↑((2:Nat) ^ (1:Nat)):Int))).toNat*(2:Nat))) [slice a11 k21 k22,slice a12 k23 k24]∧
 FuncOk Tryz.prog f∧
 ∀w9,KpL [] w8 w9→
 CallW Tryz.prog f ((fi.toList++[agg #[slice a9 k17 k18,slice a10 k19 k20],agg #[slice a11 k21 k22,slice a12 k23 k24]]++ca.toList).toArray) w9 fun e2 w10 =>
 ∃n7,e2=returned (int i64 n7)∧
 ∃l4,KpL l4 w9 w10∧
 (¬n7<0→
 InI i64 (i64.wrap ((u64.wrap (n5+n6)).fdiv (↑((2:Nat) ^ (1:Nat)):Int))+(1:Int))∧
 P5 [int i64 (i64.wrap ((u64.wrap (n5+n6)).fdiv (↑((2:Nat) ^ (1:Nat)):Int))+(1:Int)),int i64 n6] w10∧
 P6 [int i64 (i64.wrap ((u64.wrap (n5+n6)).fdiv (↑((2:Nat) ^ (1:Nat)):Int))+(1:Int)),int i64 n6] w10<P6 [int i64 n5,int i64 n6] w8)∧
 (¬¬n7<0→
 P5 [int i64 n5,int i64 (i64.wrap ((u64.wrap (n5+n6)).fdiv (↑((2:Nat) ^ (1:Nat)):Int)))] w10∧
 P6 [int i64 n5,int i64 (i64.wrap ((u64.wrap (n5+n6)).fdiv (↑((2:Nat) ^ (1:Nat)):Int)))] w10<P6 [int i64 n5,int i64 n6] w8))∧
 (¬n5<n6→
 ∃(P7:List Value→World→Prop) (P8:List Value→World→Nat),P7 [int i64 y] w8∧
 ∀n8 w11,P7 [int i64 n8] w11→
 (n5<n8→
 InI i64 (n8 - 1)∧
 InI i64 (n8 - 1)∧
 ∃d9,aa=some d9∧
 0≤n8 - 1∧
 n8 - (1:Int)<(↑an:Int)∧
 ∃a13 k25 k26 a14 k27 k28,LdA w11 (d9.add ((n8 - 1).toNat*2)) [slice a13 k25 k26,slice a14 k27 k28]∧
 ∃d10,aa=some d10∧
 0≤n8∧
 n8<(↑an:Int)∧
 ∃a15 k29 k30 a16 k31 k32,LdA w11 (d10.add (n8.toNat*2)) [slice a15 k29 k30,slice a16 k31 k32]∧
 ∃d11,aa=some d11∧
 0≤n8∧
 n8<(↑an:Int)∧
 ∀w12,KpL [] w11 w12→
 (∃l5,LdA w12 (d11.add (n8.toNat*2)) l5∧
 l5.length=2)∧
 NotFrozen w12 (d11.add (n8.toNat*2)) 2∧
 ∀w13,w13=stA w12 (d11.add (n8.toNat*2)) [slice a13 k25 k26,slice a14 k27 k28] 0→
 ∃d12,aa=some d12∧
 0≤n8 - 1∧
 n8 - (1:Int)<(↑an:Int)∧
 (∃l6,LdA w13 (d12.add ((n8 - 1).toNat*2)) l6∧
 l6.length=2)∧
 NotFrozen w13 (d12.add ((n8 - 1).toNat*2)) 2∧
 ∀w14,w14=stA w13 (d12.add ((n8 - 1).toNat*2)) [slice a15 k29 k30,slice a16 k31 k32] 0→
 InI i64 (n8 - 1)∧
 P7 [int i64 (n8 - 1)] w14∧
 P8 [int i64 (n8 - 1)] w14<P8 [int i64 n8] w11)∧
 (¬n5<n8→
 R (returned (tuple #[])) w11)))∧
 (¬z - y=1→
 InI i64 (x+z)∧
 InI i64 (i64.wrap ((u64.wrap (x+z)).fdiv (↑((2:Nat) ^ (1:Nat)):Int))+y)∧
 ∃(P9:List Value→World→Prop),((i64.wrap ((u64.wrap (x+z)).fdiv (↑((2:Nat) ^ (1:Nat)):Int))<y→
 InI i64 (i64.wrap ((u64.wrap (x+z)).fdiv (↑((2:Nat) ^ (1:Nat)):Int))+y - z)∧
 P9 [int i64 (i64.wrap ((u64.wrap (x+z)).fdiv (↑((2:Nat) ^ (1:Nat)):Int))+y - z),int i64 (i64.wrap ((u64.wrap (x+z)).fdiv (↑((2:Nat) ^ (1:Nat)):Int)))] w)∧
 (¬i64.wrap ((u64.wrap (x+z)).fdiv (↑((2:Nat) ^ (1:Nat)):Int))<y→
 P9 [int i64 x,int i64 y] w))∧
 ∀n9 n10 w15,P9 [int i64 n9,int i64 n10] w15→
 InI i64 (i64.wrap ((u64.wrap (x+z)).fdiv (↑((2:Nat) ^ (1:Nat)):Int))+y - (1:Int))∧
 ∃(P10:List Value→World→Prop),(∃(P11:List Value→World→Prop) (P12:List Value→World→Nat),P11 [int i64 n9,int i64 n10] w15∧
 ∀n11 n12 w16,P11 [int i64 n11,int i64 n12] w16→
 (n11<n12→
 InI i64 (n11+n12)∧
 InI i64 (i64.wrap ((u64.wrap (x+z)).fdiv (↑((2:Nat) ^ (1:Nat)):Int))+y - (1:Int) - i64.wrap ((u64.wrap (n11+n12)).fdiv (↑((2:Nat) ^ (1:Nat)):Int)))∧
 ∃d13,aa=some d13∧
 (0:Int)≤i64.wrap ((u64.wrap (x+z)).fdiv (↑((2:Nat) ^ (1:Nat)):Int))+y - (1:Int) - i64.wrap ((u64.wrap (n11+n12)).fdiv (↑((2:Nat) ^ (1:Nat)):Int))∧
 i64.wrap ((u64.wrap (x+z)).fdiv (↑((2:Nat) ^ (1:Nat)):Int))+y - (1:Int) - i64.wrap ((u64.wrap (n11+n12)).fdiv (↑((2:Nat) ^ (1:Nat)):Int))<(↑an:Int)∧
 ∃a17 k33 k34 a18 k35 k36,LdA w16 (d13.add ((i64.wrap ((u64.wrap (x+z)).fdiv (↑((2:Nat) ^ (1:Nat)):Int))+y - (1:Int) - i64.wrap ((u64.wrap (n11+n12)).fdiv (↑((2:Nat) ^ (1:Nat)):Int))).toNat*(2:Nat))) [slice a17 k33 k34,slice a18 k35 k36]∧
 ∃d14,aa=some d14∧
 (0:Int)≤i64.wrap ((u64.wrap (n11+n12)).fdiv (↑((2:Nat) ^ (1:Nat)):Int))∧
 i64.wrap ((u64.wrap (n11+n12)).fdiv (↑((2:Nat) ^ (1:Nat)):Int))<(↑an:Int)∧
 ∃a19 k37 k38 a20 k39 k40,LdA w16 (d14.add ((i64.wrap ((u64.wrap (n11+n12)).fdiv (↑((2:Nat) ^ (1:Nat)):Int))).toNat*(2:Nat))) [slice a19 k37 k38,slice a20 k39 k40]∧
 FuncOk Tryz.prog f∧
 ∀w17,KpL [] w16 w17→
 CallW Tryz.prog f ((fi.toList++[agg #[slice a17 k33 k34,slice a18 k35 k36],agg #[slice a19 k37 k38,slice a20 k39 k40]]++ca.toList).toArray) w17 fun e3 w18 =>
 ∃n13,e3=returned (int i64 n13)∧
 ∃l7,KpL l7 w17 w18∧
 (¬n13<0→
 InI i64 (i64.wrap ((u64.wrap (n11+n12)).fdiv (↑((2:Nat) ^ (1:Nat)):Int))+(1:Int))∧
 P11 [int i64 (i64.wrap ((u64.wrap (n11+n12)).fdiv (↑((2:Nat) ^ (1:Nat)):Int))+(1:Int)),int i64 n12] w18∧
 P12 [int i64 (i64.wrap ((u64.wrap (n11+n12)).fdiv (↑((2:Nat) ^ (1:Nat)):Int))+(1:Int)),int i64 n12] w18<P12 [int i64 n11,int i64 n12] w16)∧
 (¬¬n13<0→
 P11 [int i64 n11,int i64 (i64.wrap ((u64.wrap (n11+n12)).fdiv (↑((2:Nat) ^ (1:Nat)):Int)))] w18∧
 P12 [int i64 n11,int i64 (i64.wrap ((u64.wrap (n11+n12)).fdiv (↑((2:Nat) ^ (1:Nat)):Int)))] w18<P12 [int i64 n11,int i64 n12] w16))∧
 (¬n11<n12→
 P10 [int i64 n11,int i64 n12] w16))∧
 ∀n14 n15 w19,P10 [int i64 n14,int i64 n15] w19→
 InI i64 (i64.wrap ((u64.wrap (x+z)).fdiv (↑((2:Nat) ^ (1:Nat)):Int))+y - n14)∧
 ∃(P13:List Value→World→Prop),((n14<y→
 (y<i64.wrap ((u64.wrap (x+z)).fdiv (↑((2:Nat) ^ (1:Nat)):Int))+y - n14→
 CallW Tryz.prog 216 #[slice aa an ac,int i64 n14,int i64 y,int i64 (i64.wrap ((u64.wrap (x+z)).fdiv (↑((2:Nat) ^ (1:Nat)):Int))+y - n14),func (Fn.func f) fi ca] w19 fun e4 w20 =>
 e4=returned (tuple #[])∧
 ∃l8,KpL l8 w19 w20∧
 P13 [] w20)∧
 (¬y<i64.wrap ((u64.wrap (x+z)).fdiv (↑((2:Nat) ^ (1:Nat)):Int))+y - n14→
 P13 [] w19))∧
 (¬n14<y→
 P13 [] w19))∧
 ∀w21,P13 [] w21→
 ∃(P14:List Value→World→Prop),((x<n14→
 (n14<i64.wrap ((u64.wrap (x+z)).fdiv (↑((2:Nat) ^ (1:Nat)):Int))→
 CallW Tryz.prog 211 #[slice aa an ac,int i64 x,int i64 n14,int i64 (i64.wrap ((u64.wrap (x+z)).fdiv (↑((2:Nat) ^ (1:Nat)):Int))),func (Fn.func f) fi ca] w21 fun e5 w22 =>
 e5=returned (tuple #[])∧
 ∃l9,KpL l9 w21 w22∧
 P14 [] w22)∧
 (¬n14<i64.wrap ((u64.wrap (x+z)).fdiv (↑((2:Nat) ^ (1:Nat)):Int))→
 P14 [] w21))∧
 (¬x<n14→
 P14 [] w21))∧
 ∀w23,P14 [] w23→
 (i64.wrap ((u64.wrap (x+z)).fdiv (↑((2:Nat) ^ (1:Nat)):Int))<i64.wrap ((u64.wrap (x+z)).fdiv (↑((2:Nat) ^ (1:Nat)):Int))+y - n14→
 (i64.wrap ((u64.wrap (x+z)).fdiv (↑((2:Nat) ^ (1:Nat)):Int))+y - n14<z→
 CallW Tryz.prog 211 #[slice aa an ac,int i64 (i64.wrap ((u64.wrap (x+z)).fdiv (↑((2:Nat) ^ (1:Nat)):Int))),int i64 (i64.wrap ((u64.wrap (x+z)).fdiv (↑((2:Nat) ^ (1:Nat)):Int))+y - n14),int i64 z,func (Fn.func f) fi ca] w23 fun e6 w24 =>
 e6=returned (tuple #[])∧
 ∃l10,KpL l10 w23 w24∧
 R (returned (tuple #[])) w24)∧
 (¬i64.wrap ((u64.wrap (x+z)).fdiv (↑((2:Nat) ^ (1:Nat)):Int))+y - n14<z→
 R (returned (tuple #[])) w23))∧
 (¬i64.wrap ((u64.wrap (x+z)).fdiv (↑((2:Nat) ^ (1:Nat)):Int))<i64.wrap ((u64.wrap (x+z)).fdiv (↑((2:Nat) ^ (1:Nat)):Int))+y - n14→
 R (returned (tuple #[])) w23)))):Calls Tryz.prog 211 #[slice aa an ac,int i64 x,int i64 y,int i64 z,func (Fn.func f) fi ca] w R :=
 fnc0 (an:={ loops:=[⟨33,[20,21],[23,149,150,151,152,153,154,155,156,157,158,159,160,161,162,163,164,165,166,167,168,169,170,171,172,173,174],[]⟩,⟨21,[17],[108,109,110,111,112,113,114,115,116,117,118,119,120,121,122,123,124,125,126,127,128],[0]⟩,⟨15,[14,15],[16,83,84,85,86,87,88,89,90,91,92,93,94,95,96,97,98,99,100,101,102,103,104,105,106],[]⟩,⟨9,[13],[55,56,57,58,59,60,61,62,63,64,65,66,67,68,69,70,71,72,73,74,75,76],[0]⟩,⟨3,[10,11],[12,31,32,33,34,35,36,37,38,39,40,41,42,43,44,45,46,47,48,49,50,51,52,53],[]⟩],cuts:=[⟨43,[],[192,193,194,195,196,197,198,199,200,201,202,203,204,205],[]⟩,⟨41,[],[178,179,180,181,182,183,184,185,186,187,188,189,190,191],[]⟩,⟨38,[20,21],[23,149,150,151,152,153,154,155,156,157,158,159,160,161,162,163,164,165,166,167,168,169,170,171,172,173,174],[]⟩,⟨32,[20,21],[138,139,140,141,142,143,144,145,146],[]⟩],muts:=[216,211] }) (args:=[.a (.c (.v (.slice aa an ac))),.a (.c (.v (.int .i64 x))),.a (.c (.v (.int .i64 y))),.a (.c (.v (.int .i64 z))),.a (.c (.v (.func (.func f) fi ca)))]) Tryz_ok Tryz.func211 (by kernel_rfl) rfl rfl h
theorem stable_vc{aa:Option Addr}{an ac:Nat}{x:Int}{f:Nat}{fi ca:Array Value}{w:World}{R:Ending→World→Prop}
 (h :
 ∃(P1:List Value→World→Prop) (P2:List Value→World→Nat),P1 [int i64 0,int i64 20] w∧
 ∀n1 n2 w1,P1 [int i64 n1,int i64 n2] w1→
 (n2≤x→
 CallW Tryz.prog 210 #[slice aa an ac,int i64 n1,int i64 n2,func (Fn.func f) fi ca] w1 fun e1 w2 =>
 e1=returned (tuple #[])∧
 ∃l1,KpL l1 w1 w2∧
 InI i64 (n2+20)∧
 P1 [int i64 n2,int i64 (n2+20)] w2∧
 P2 [int i64 n2,int i64 (n2+20)] w2<P2 [int i64 n1,int i64 n2] w1)∧
 (¬n2≤x→
 CallW Tryz.prog 210 #[slice aa an ac,int i64 n1,int i64 x,func (Fn.func f) fi ca] w1 fun e2 w3 =>
 e2=returned (tuple #[])∧
 ∃l2,KpL l2 w1 w3∧
 ∃(P3:List Value→World→Prop) (P4:List Value→World→Nat),P3 [int i64 20] w3∧
 ∀n3 w4,P3 [int i64 n3] w4→
 (n3<x→
 InI i64 (2*n3)∧
 ∃(P5:List Value→World→Prop) (P6:List Value→World→Nat),P5 [int i64 0,int i64 (2*n3)] w4∧
 ∀n4 n5 w5,P5 [int i64 n4,int i64 n5] w5→
 (n5≤x→
 InI i64 (n4+n3)∧
 CallW Tryz.prog 211 #[slice aa an ac,int i64 n4,int i64 (n4+n3),int i64 n5,func (Fn.func f) fi ca] w5 fun e3 w6 =>
 e3=returned (tuple #[])∧
 ∃l3,KpL l3 w5 w6∧
 InI i64 (2*n3)∧
 InI i64 (n5+2*n3)∧
 P5 [int i64 n5,int i64 (n5+2*n3)] w6∧
 P6 [int i64 n5,int i64 (n5+2*n3)] w6<P6 [int i64 n4,int i64 n5] w5)∧
 (¬n5≤x→
 InI i64 (n4+n3)∧
 (n4+n3<x→
 CallW Tryz.prog 211 #[slice aa an ac,int i64 n4,int i64 (n4+n3),int i64 x,func (Fn.func f) fi ca] w5 fun e4 w7 =>
 e4=returned (tuple #[])∧
 ∃l4,KpL l4 w5 w7∧
 InI i64 (n3*2)∧
 P3 [int i64 (n3*2)] w7∧
 P4 [int i64 (n3*2)] w7<P4 [int i64 n3] w4)∧
 (¬n4+n3<x→
 InI i64 (n3*2)∧
 P3 [int i64 (n3*2)] w5∧
 P4 [int i64 (n3*2)] w5<P4 [int i64 n3] w4)))∧
 (¬n3<x→
 R (returned (tuple #[])) w4))):Calls Tryz.prog 198 #[slice aa an ac,int i64 x,func (Fn.func f) fi ca] w R :=
 fnc0 (an:={ loops:=[⟨9,[7,8],[33,34,35,36,37,38,39,40,41,42,43,44,45,46,47,48],[]⟩,⟨7,[6],[7,8,9,28,29,30,31,32,33,34,35,36,37,38,39,40,41,42,43,44,45,46,47,48,49,50,51,52,53,54,55,56,57,58,59,60,61,62],[]⟩,⟨2,[7,8],[11,12,13,14,15,16,17,18,19,20,21,22],[]⟩],muts:=[210,211] }) (args:=[.a (.c (.v (.slice aa an ac))),.a (.c (.v (.int .i64 x))),.a (.c (.v (.func (.func f) fi ca)))]) Tryz_ok Tryz.func198 (by kernel_rfl) rfl rfl h
theorem sortStable_vc{aa:Option Addr}{an ac:Nat}{f:Nat}{fi ca:Array Value}{w:World}{R:Ending→World→Prop}
 (h :
 CallW Tryz.prog 198 #[slice aa an ac,int i64 (↑an:Int),func (Fn.func f) fi ca] w fun e1 w1 =>
 e1=returned (tuple #[])∧
 ∃l1,KpL l1 w w1∧
 R (returned (tuple #[])) w1):Calls Tryz.prog 167 #[slice aa an ac,func (Fn.func f) fi ca] w R :=
 fnc0 (an:={ muts:=[198] }) (args:=[.a (.c (.v (.slice aa an ac))),.a (.c (.v (.func (.func f) fi ca)))]) Tryz_ok Tryz.func167 (by kernel_rfl) rfl rfl h
theorem sortBy_vc{aa:Option Addr}{an ac:Nat}{f:Nat}{fi ca:Array Value}{w:World}{R:Ending→World→Prop}
 (h :
 ∀k1,w.heap.size≤k1→
 ∀w1,KpL [] w w1→
 Hb w1 k1 #[func (Fn.func f) fi ca] 223→
 CallW Tryz.prog 167 (#[slice aa an ac,func (Fn.func 168) #[] #[pointer (some (Addr.mk k1 0 none))]]) w1 fun e1 w2 =>
 e1=returned (tuple #[])∧
 ∃l1,KpL l1 w1 w2∧
 NotIn k1 l1∧
 (Hb w2 k1 #[func (Fn.func f) fi ca] 223→
 R (returned (tuple #[])) w2)):Calls Tryz.prog 136 #[slice aa an ac,func (Fn.func f) fi ca] w R :=
 fnc0 (an:={ muts:=[167],all:=true }) (args:=[.a (.c (.v (.slice aa an ac))),.a (.c (.v (.func (.func f) fi ca)))]) Tryz_ok Tryz.func136 (by kernel_rfl) rfl rfl h
theorem fresh_vc{aa:Option Addr}{an ac:Nat}{ba:Option Addr}{bn bc:Nat}{da:Option Addr}{dn dc:Nat}{w:World}{R:Ending→World→Prop}
 (h :
 ∀k1,w.heap.size≤k1→
 ∀w1,KpL [] w w1→
 Hb w1 k1 #[slice none 0 0,slice none 0 0,slice none 0 0] 58→
 CallW Tryz.prog 164 #[slice aa an ac] w1 fun e1 w2 =>
 ∃a1 k2 k3,e1=returned (slice a1 k2 k3)∧
 KpL [] w1 w2∧
 (Hb w2 k1 #[slice none 0 0,slice none 0 0,slice none 0 0] 58→
 CallW Tryz.prog 165 #[slice ba bn bc] w2 fun e2 w3 =>
 ∃a2 k4 k5,e2=returned (slice a2 k4 k5)∧
 KpL [] w2 w3∧
 ∀k6,w3.heap.size≤k6→
 ∃(P1:List Value→World→Prop) (P2:List Value→World→Nat),(∀w4,KpL [] w3 w4→
 Hb w4 k6 #[slice a1 k2 k3,slice a2 k4 k5,slice none 0 0] 58∧
 Hb w4 k1 #[slice none 0 0,slice none 0 0,slice none 0 0] 58→
 P1 [int i64 0,slice a1 k2 k3,slice a2 k4 k5,slice none 0 0] w4)∧
 ∀n1 a3 k7 k8 a4 k9 k10 a5 k11 k12 w5,Hb w5 k6 #[slice a3 k7 k8,slice a4 k9 k10,slice a5 k11 k12] 58→
 P1 [int i64 n1,slice a3 k7 k8,slice a4 k9 k10,slice a5 k11 k12] w5→
 (n1<(↑dn:Int)→
 ∃d1,da=some d1∧
 0≤n1∧
 n1<(↑dn:Int)∧
 (Hb w5 k6 #[slice a3 k7 k8,slice a4 k9 k10,slice a5 k11 k12] 58∧
 Hb w5 k1 #[slice none 0 0,slice none 0 0,slice none 0 0] 58→
 ∃a6 k13 k14 a7 k15 k16,LdA w5 (d1.add (n1.toNat*2)) [slice a6 k13 k14,slice a7 k15 k16]∧
 ∀k17,w5.heap.size≤k17→
 ∀w6,KpL [] w5 w6→
 Hb w6 k17 #[slice a6 k13 k14,slice a7 k15 k16] 147∧
 Hb w6 k6 #[slice a3 k7 k8,slice a4 k9 k10,slice a5 k11 k12] 58∧
 Hb w6 k1 #[slice none 0 0,slice none 0 0,slice none 0 0] 58→
 CallW Tryz.prog 166 (#[agg #[slice a6 k13 k14,slice a7 k15 k16]]) w6 fun e3 w7 =>
 ∃a8 k18 k19 a9 k20 k21,e3=returned (agg #[slice a8 k18 k19,slice a9 k20 k21])∧
 KpL [] w6 w7∧
 ∀k22,w7.heap.size≤k22→
 ∀w8,KpL [] w7 w8→
 Hb w8 k22 #[slice a8 k18 k19,slice a9 k20 k21] 147∧
 Hb w8 k17 #[slice a6 k13 k14,slice a7 k15 k16] 147∧
 Hb w8 k6 #[slice a3 k7 k8,slice a4 k9 k10,slice a5 k11 k12] 58∧
 Hb w8 k1 #[slice none 0 0,slice none 0 0,slice none 0 0] 58→
 Ev Tryz.prog (Builtin.append_ #[56,56] 56 #[slice a5 k11 k12,slice (some (Addr.mk k22 0 none)) 1 1]) w8 fun y1 w9 =>
 ∃a10 k23 k24,y1=slice a10 k23 k24∧
 ∃l1,KpL l1 w8 w9∧
 (NotIn k22 l1∧
 NotIn k17 l1∧
 NotIn k6 l1∧
 NotIn k1 l1)∧
 InI i64 (n1+1)∧
 ∀w10,KpL [k6] w9 w10→
 Hb w10 k22 #[slice a8 k18 k19,slice a9 k20 k21] 147∧
 Hb w10 k17 #[slice a6 k13 k14,slice a7 k15 k16] 147∧
 Hb w10 k6 #[slice a3 k7 k8,slice a4 k9 k10,slice a10 k23 k24] 58∧
 Hb w10 k1 #[slice none 0 0,slice none 0 0,slice none 0 0] 58→
 P1 [int i64 (n1+1),slice a3 k7 k8,slice a4 k9 k10,slice a10 k23 k24] w10∧
 P2 [int i64 (n1+1),slice a3 k7 k8,slice a4 k9 k10,slice a10 k23 k24] w10<P2 [int i64 n1,slice a3 k7 k8,slice a4 k9 k10,slice a5 k11 k12] w5))∧
 (¬n1<(↑dn:Int)→
 ∀w11,KpL [k1] w5 w11→
 Hb w11 k6 #[slice a3 k7 k8,slice a4 k9 k10,slice a5 k11 k12] 58∧
 Hb w11 k1 #[slice a3 k7 k8,slice a4 k9 k10,slice a5 k11 k12] 58→
 R (returned (agg #[slice a3 k7 k8,slice a4 k9 k10,slice a5 k11 k12])) w11))):Calls Tryz.prog 135 #[slice aa an ac,slice ba bn bc,slice da dn dc] w R :=
 fnc0 (an:={ loops:=[⟨3,[17],[9,18,19,20,21,22,23,24,25,26,27,28],[7]⟩],all:=true }) (args:=[.a (.c (.v (.slice aa an ac))),.a (.c (.v (.slice ba bn bc))),.a (.c (.v (.slice da dn dc)))]) Tryz_ok Tryz.func135 (by kernel_rfl) rfl rfl h
theorem make_vc{aa:Option Addr}{an ac:Nat}{ba:Option Addr}{bn bc:Nat}{da:Option Addr}{dn dc:Nat}{w:World}{R:Ending→World→Prop}
 (h :
 ∀k1,w.heap.size≤k1→
 ∀w1,KpL [] w w1→
 Hb w1 k1 #[slice none 0 0,slice none 0 0,slice none 0 0] 58→
 CallW Tryz.prog 133 #[slice aa an ac,slice ba bn bc] w1 fun e1 w2 =>
 ∃n1,e1=returned (int i64 n1)∧
 KpL [] w1 w2∧
 (n1≠0→
 ∀w3,KpL [k1] w2 w3→
 Hb w3 k1 #[slice none 0 0,slice none 0 0,slice none 0 0] 58→
 R (returned (tuple #[agg #[slice none 0 0,slice none 0 0,slice none 0 0],int i64 n1])) w3)∧
 (¬n1≠0→
 ((4096:Int)<(↑dn:Int)→
 ∀w4,KpL [k1] w2 w4→
 Hb w4 k1 #[slice none 0 0,slice none 0 0,slice none 0 0] 58→
 R (returned (tuple #[agg #[slice none 0 0,slice none 0 0,slice none 0 0],int i64 9])) w4)∧
 (¬(4096:Int)<(↑dn:Int)→
 ∃(P1:List Value→World→Prop) (P2:List Value→World→Nat),(Hb w2 k1 #[slice none 0 0,slice none 0 0,slice none 0 0] 58→
 P1 [int i64 0,slice none 0 0,slice none 0 0,slice none 0 0] w2)∧
 ∀n2 a1 k2 k3 a2 k4 k5 a3 k6 k7 w5,Hb w5 k1 #[slice a1 k2 k3,slice a2 k4 k5,slice a3 k6 k7] 58→
 P1 [int i64 n2,slice a1 k2 k3,slice a2 k4 k5,slice a3 k6 k7] w5→
 (n2<(↑dn:Int)→
 ∃d1,da=some d1∧
 0≤n2∧
 n2<(↑dn:Int)∧
 (Hb w5 k1 #[slice a1 k2 k3,slice a2 k4 k5,slice a3 k6 k7] 58→
 ∃a4 k8 k9 a5 k10 k11,LdA w5 (d1.add (n2.toNat*2)) [slice a4 k8 k9,slice a5 k10 k11]∧
 ∀k12,w5.heap.size≤k12→
 ∀w6,KpL [] w5 w6→
 Hb w6 k12 #[slice a4 k8 k9,slice a5 k10 k11] 147∧
 Hb w6 k1 #[slice a1 k2 k3,slice a2 k4 k5,slice a3 k6 k7] 58→
 CallW Tryz.prog 134 (#[slice aa an ac,slice ba bn bc,agg #[slice a4 k8 k9,slice a5 k10 k11]]) w6 fun e2 w7 =>
 ∃n3,e2=returned (int i64 n3)∧
 KpL [] w6 w7∧
 (n3≠0→
 ∀w8,KpL [k1] w7 w8→
 Hb w8 k12 #[slice a4 k8 k9,slice a5 k10 k11] 147∧
 Hb w8 k1 #[slice none 0 0,slice none 0 0,slice none 0 0] 58→
 R (returned (tuple #[agg #[slice none 0 0,slice none 0 0,slice none 0 0],int i64 n3])) w8)∧
 (¬n3≠0→
 InI i64 (n2+1)∧
 (Hb w7 k12 #[slice a4 k8 k9,slice a5 k10 k11] 147∧
 Hb w7 k1 #[slice a1 k2 k3,slice a2 k4 k5,slice a3 k6 k7] 58→
 P1 [int i64 (n2+1),slice a1 k2 k3,slice a2 k4 k5,slice a3 k6 k7] w7∧
 P2 [int i64 (n2+1),slice a1 k2 k3,slice a2 k4 k5,slice a3 k6 k7] w7<P2 [int i64 n2,slice a1 k2 k3,slice a2 k4 k5,slice a3 k6 k7] w5))))∧
 (¬n2<(↑dn:Int)→
 Hb w5 k1 #[slice a1 k2 k3,slice a2 k4 k5,slice a3 k6 k7] 58→
 CallW Tryz.prog 135 #[slice aa an ac,slice ba bn bc,slice da dn dc] w5 fun e3 w9 =>
 ∃a6 k13 k14 a7 k15 k16 a8 k17 k18,e3=returned (agg #[slice a6 k13 k14,slice a7 k15 k16,slice a8 k17 k18])∧
 KpL [] w5 w9∧
 ∀k19,w9.heap.size≤k19→
 ∀w10,KpL [] w9 w10→
 Hb w10 k19 #[slice a6 k13 k14,slice a7 k15 k16,slice a8 k17 k18] 58∧
 Hb w10 k1 #[slice a1 k2 k3,slice a2 k4 k5,slice a3 k6 k7] 58→
 CallW Tryz.prog 136 (#[slice a8 k17 k18,func (Fn.func 137) #[] #[]]) w10 fun e4 w11 =>
 e4=returned (tuple #[])∧
 ∃l1,KpL l1 w10 w11∧
 (NotIn k19 l1∧
 NotIn k1 l1)∧
 ∃(P3:List Value→World→Prop) (P4:List Value→World→Nat),(Hb w11 k19 #[slice a6 k13 k14,slice a7 k15 k16,slice a8 k17 k18] 58∧
 Hb w11 k1 #[slice a1 k2 k3,slice a2 k4 k5,slice a3 k6 k7] 58→
 P3 [int i64 1,slice a1 k2 k3,slice a2 k4 k5,slice a3 k6 k7] w11)∧
 ∀n4 a9 k20 k21 a10 k22 k23 a11 k24 k25 w12,Hb w12 k1 #[slice a9 k20 k21,slice a10 k22 k23,slice a11 k24 k25] 58→
 P3 [int i64 n4,slice a9 k20 k21,slice a10 k22 k23,slice a11 k24 k25] w12→
 (n4<(↑k17:Int)→
 InI i64 (n4 - 1)∧
 ∃d2,a8=some d2∧
 0≤n4 - 1∧
 n4 - (1:Int)<(↑k17:Int)∧
 ∃a12 k26 k27,LdA w12 ((d2.add ((n4 - 1).toNat*2)).add 0) [slice a12 k26 k27]∧
 ∃d3,a8=some d3∧
 0≤n4∧
 n4<(↑k17:Int)∧
 ∃a13 k28 k29,LdA w12 ((d3.add (n4.toNat*2)).add 0) [slice a13 k28 k29]∧
 ∀w13,KpL [] w12 w13→
 Hb w13 k1 #[slice a9 k20 k21,slice a10 k22 k23,slice a11 k24 k25] 58∧
 Hb w13 k19 #[slice a6 k13 k14,slice a7 k15 k16,slice a8 k17 k18] 58→
 CallW Tryz.prog 138 #[slice a12 k26 k27,slice a13 k28 k29] w13 fun e5 w14 =>
 ∃n5,e5=returned (int i64 n5)∧
 KpL [] w13 w14∧
 (n5=0→
 ∀w15,KpL [k1] w14 w15→
 Hb w15 k1 #[slice none 0 0,slice none 0 0,slice none 0 0] 58∧
 Hb w15 k19 #[slice a6 k13 k14,slice a7 k15 k16,slice a8 k17 k18] 58→
 R (returned (tuple #[agg #[slice none 0 0,slice none 0 0,slice none 0 0],int i64 5])) w15)∧
 (¬n5=0→
 InI i64 (n4+1)∧
 (Hb w14 k1 #[slice a9 k20 k21,slice a10 k22 k23,slice a11 k24 k25] 58∧
 Hb w14 k19 #[slice a6 k13 k14,slice a7 k15 k16,slice a8 k17 k18] 58→
 P3 [int i64 (n4+1),slice a9 k20 k21,slice a10 k22 k23,slice a11 k24 k25] w14∧
 P4 [int i64 (n4+1),slice a9 k20 k21,slice a10 k22 k23,slice a11 k24 k25] w14<P4 [int i64 n4,slice a9 k20 k21,slice a10 k22 k23,slice a11 k24 k25] w12)))∧
 (¬n4<(↑k17:Int)→
 ∀w16,KpL [k1] w12 w16→
 Hb w16 k1 #[slice a6 k13 k14,slice a7 k15 k16,slice a8 k17 k18] 58∧
 Hb w16 k19 #[slice a6 k13 k14,slice a7 k15 k16,slice a8 k17 k18] 58→
 R (returned (tuple #[agg #[slice a6 k13 k14,slice a7 k15 k16,slice a8 k17 k18],int i64 0])) w16))))):Calls Tryz.prog 69 #[slice aa an ac,slice ba bn bc,slice da dn dc] w R :=
 fnc0 (an:={ loops:=[⟨16,[13],[7,47,48,49,50,51,52,53,54,55,56,57,58,59,60,61,62,63,64,65,66,67,68,69],[6]⟩,⟨7,[27],[7,10,11,28,29,30,31,32,33,34,35,36,37,38,39],[6]⟩],muts:=[136],all:=true }) (args:=[.a (.c (.v (.slice aa an ac))),.a (.c (.v (.slice ba bn bc))),.a (.c (.v (.slice da dn dc)))]) Tryz_ok Tryz.func69 (by kernel_rfl) rfl rfl h
theorem makeF_vc{cxa:Option Addr}{cxn cxc:Nat}{cya:Option Addr}{cyn cyc:Nat}{w:World}{R:Ending→World→Prop}
 (h :
 ∀k1,w.heap.size≤k1→
 ∀w1,KpL [] w w1→
 R (returned (slice cxa cxn cxc)) w1):Calls Tryz.prog 137 #[agg #[slice cxa cxn cxc,slice cya cyn cyc]] w R :=
 fnc0 (an:={}) (args:=[.a (.agg [.v (.slice cxa cxn cxc),.v (.slice cya cyn cyc)])]) Tryz_ok Tryz.func137 (by kernel_rfl) rfl rfl h
theorem cmpBy_vc{k:Nat}{xxa:Option Addr}{xxn xxc:Nat}{xya:Option Addr}{xyn xyc:Nat}{yxa:Option Addr}{yxn yxc:Nat}{yya:Option Addr}{yyn yyc:Nat}{w:World}{R:Ending→World→Prop}
 (hk:Hb w k #[func (Fn.func 137) #[] #[]] 223)
 (h :
 ∀k1,w.heap.size≤k1→
 ∀k2,w.heap.size≤k2→
 FuncOk Tryz.prog 137∧
 ∀w1,KpL [] w w1→
 Hb w1 k2 #[slice yxa yxn yxc,slice yya yyn yyc] 147∧
 Hb w1 k1 #[slice xxa xxn xxc,slice xya xyn xyc] 147∧
 Hb w1 k #[func (Fn.func 137) #[] #[]] 223→
 CallW Tryz.prog 137 (#[agg #[slice xxa xxn xxc,slice xya xyn xyc]]) w1 fun e1 w2 =>
 ∃a1 k3 k4,e1=returned (slice a1 k3 k4)∧
 ∃l1,KpL l1 w1 w2∧
 (NotIn k2 l1∧
 NotIn k1 l1∧
 NotIn k l1)∧
 (Hb w2 k2 #[slice yxa yxn yxc,slice yya yyn yyc] 147∧
 Hb w2 k1 #[slice xxa xxn xxc,slice xya xyn xyc] 147∧
 Hb w2 k #[func (Fn.func 137) #[] #[]] 223→
 (LdA w2 (Addr.mk k2 0 none) [slice yxa yxn yxc,slice yya yyn yyc]∧
 LdA w2 (Addr.mk k 0 none) [func (Fn.func 137) #[] #[]]∧
 True)∧
 FuncOk Tryz.prog 137∧
 (Hb w2 k2 #[slice yxa yxn yxc,slice yya yyn yyc] 147∧
 Hb w2 k1 #[slice xxa xxn xxc,slice xya xyn xyc] 147∧
 Hb w2 k #[func (Fn.func 137) #[] #[]] 223→
 CallW Tryz.prog 137 (#[agg #[slice yxa yxn yxc,slice yya yyn yyc]]) w2 fun e2 w3 =>
 ∃a2 k5 k6,e2=returned (slice a2 k5 k6)∧
 ∃l2,KpL l2 w2 w3∧
 (NotIn k2 l2∧
 NotIn k1 l2∧
 NotIn k l2)∧
 (Hb w3 k2 #[slice yxa yxn yxc,slice yya yyn yyc] 147∧
 Hb w3 k1 #[slice xxa xxn xxc,slice xya xyn xyc] 147∧
 Hb w3 k #[func (Fn.func 137) #[] #[]] 223→
 CallW Tryz.prog 138 #[slice a1 k3 k4,slice a2 k5 k6] w3 fun e3 w4 =>
 ∃n1,e3=returned (int i64 n1)∧
 KpL [] w3 w4∧
 (Hb w4 k2 #[slice yxa yxn yxc,slice yya yyn yyc] 147∧
 Hb w4 k1 #[slice xxa xxn xxc,slice xya xyn xyc] 147∧
 Hb w4 k #[func (Fn.func 137) #[] #[]] 223→
 R (returned (int i64 n1)) w4))))):Calls Tryz.prog 168 #[agg #[slice xxa xxn xxc,slice xya xyn xyc],agg #[slice yxa yxn yxc,slice yya yyn yyc],pointer (some (Addr.mk k 0 none))] w R :=
 fncK (an:={ all:=true }) (args:=[.a (.agg [.v (.slice xxa xxn xxc),.v (.slice xya xyn xyc)]),.a (.agg [.v (.slice yxa yxn yxc),.v (.slice yya yyn yyc)]),.a (.c (.loc 0 0))]) (rho:=[k]) (hp:=[(0,223,[.v (.func (.func 137) #[] #[])])]) Tryz_ok Tryz.func168 (by kernel_rfl) rfl rfl hk (by simp) (by simpa using block_lt hk) rfl (by simp) h
end Go.Vc
