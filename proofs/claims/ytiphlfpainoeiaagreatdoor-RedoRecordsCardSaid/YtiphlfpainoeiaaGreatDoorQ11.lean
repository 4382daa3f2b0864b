/- Part 11 of the proof of RedoRecords (conditions: none beyond the statement's own guards). -/
import Derived.Test.YtiphlfpainoeiaaGreatDoorQ10
set_option linter.unusedVariables false
set_option linter.unusedSimpArgs false
namespace Go.Proofs.YtiphlfpainoeiaaGreatDoor
open Go.RowKit Go.Proofs.YtiphlfpainoeiaaGreatDoorW.PrintWords L
def lI(w:World)(e:Ending)(z:World):Prop:=∃s A1 h c1 A2 q c2 A3 r c3 A4 y c4,e= .returned (.agg #[.string s, .slice A1 h c1, .slice A2 q c2, .slice A3 r c3, .slice A4 y c4])∧Below w.heap.size w z
theorem pY{α:Type}{d:Kd α}{w:World}{A:Option Addr}{n:Nat}{xs:List α}(h:Kd.C d w A n xs)(hn:0<n):∃(ad:Addr) (q:List Value),A=some ad∧q.length=n*d.sz∧(∀u∈q,u.oneCell'=true)∧∀j u,q[j]? =some u→w.cell? (ad.add j)=some u:=by
 obtain⟨ad,rfl,U⟩:=h.2.2 hn;have step:∀m,m≤n→∃q:List Value,q.length=m*d.sz∧(∀u∈q,u.oneCell'=true)∧∀j u,q[j]? =some u→w.cell? (ad.add j)=some u:=by
  intro m
  induction m with
  |zero=>intro _;exact⟨[],by simp,by simp,by simp⟩
  |succ m ih=>
   intro hm;obtain⟨q,r,h1,D⟩:=ih (by omega);have Z:m<xs.length:=(by have:=h.1;omega);obtain⟨c,X,J,V⟩:=U m _ (r9 Z);refine⟨q++c,by rw [rO,r,X,Nat.succ_mul],?_,?_⟩
   ·intro u y
    rcases List.mem_append.1 y with y|y;·exact h1 u y
    ·exact d.K_one J u y
   ·intro j u z
    rcases Nat.lt_or_ge j q.length with Y|G
    ·rw [List.getElem?_append_left Y]at z
     exact D j u z
    ·rw [List.getElem?_append_right G]at z
     have:=V (j-q.length) u z;rwa [r,show m*d.sz+(j-m*d.sz)=j from by rw [r]at G;omega]at this
 obtain⟨q,r,h1,D⟩:=step n (rA _);exact⟨ad,q,rfl,r,h1,D⟩
theorem jC{α:Type}(d:Kd α){W:World}(t D e:TypeId)(z:Value)(bytes:Nat)(q:Tryz.prog.underlying t=some (.slice e))(Z:(Tryz.prog.info? e).map (fun i=>(i.zero,i.size,i.bytes))=some (some z,d.sz,bytes))(V:bytes≤128)
 (p:Addr)(A:Option Addr)(m c:Nat)(xs:List α)(J:Kd.C d W A m xs)(hm:m≤140737488355328/128):
 ∃G n' U w1,(Builtin.append_ #[t,t] D #[.slice (some p) 0 0, .slice A m c]).run Tryz.prog W= .ok (.slice G n' U) w1∧Below W.heap.size W w1:=by
 obtain⟨i,hi,y⟩:=sd.1 Z;simp only [Prod.mk.injEq]at y;obtain⟨hz0,r,hz2⟩:=y;rcases Nat.eq_zero_or_pos m with h|h
 ·subst h
  have Y:(Builtin.firstCells d.sz 0 (.slice A 0 c)).run Tryz.prog W= .ok #[] W:=by
   cases A with
   |none=>simp [Builtin.firstCells]
   |some a=>exact run_firstCells_some (P:=Tryz.prog) W d.sz 0 a 0 c [] (by simp) (by simp)
  refine⟨some p,0,0,W,?_,rr _ _⟩;simp [Builtin.append_,run_underlying q,sizeOf,typeInfo,hi,r,Builtin.lenOf,Y,storeCells]
 ·obtain⟨ad,news,rfl,hl,h1,X⟩:=pY J h
  have hr:=run_append_grow (P:=Tryz.prog) W t D e i z q hi hz0 p 0 0 [] (by simp) (by simp) ad m c news (by rw [r];exact hl) X (by omega) (by omega) (by rw [hz2];exact growslice_fits (by omega) (by rw [Nat.zero_add];exact rK (Nat.mul_le_mul hm V) (by decide)));exact⟨_,_,_,_,hr,(rr W.heap.size W).drew.alloc (rA _) _⟩
section
variable {ops:Array Oper} {rest:List Oper} {o:Oper} {a:Act} {Q:Exit→Act→World→Prop} {α:Type}
theorem eJ(d:Kd α){W:World}(t e:TypeId)(z:Value)(bytes:Nat)(ht:Tryz.prog.underlying t=some (.slice e))(X:(Tryz.prog.info? e).map (fun i=>(i.zero,i.size,i.bytes))=some (some z,d.sz,bytes))(U:bytes≤128)
 (s x:Operand)(p:Addr)(A:Option Addr)(m c:Nat)(xs:List α)(D:Kd.C d W A m xs)(Y:m≤140737488355328/128)(V:o.guard=none)(ho:o.op= .call {callee:= .builtin .append,args:= #[s,x],argTypes:= #[t,t]})
 (Z:a.eval s= .slice (some p) 0 0)(hx:a.eval x= .slice A m c)
 (h:∀q y r w1,Below W.heap.size W w1→wpList Tryz.prog ops Q rest (a.put o.dst (.slice q y r)) w1):wpList Tryz.prog ops Q (o::rest) a W:=by
 refine wpList_plain V fun K J=>?_
 obtain⟨q,y,r,w1,hr,G⟩:=jC d t o.type e z bytes ht X U p A m c xs D Y;unfold Oper.wp execOp;simp only [ho,resolve,invoke,builtin,Sem.run_bind,Sem.run_pure,Result.andThen_ok,List.map_toArray,List.map_cons,List.map_nil,Z,hx,hr];exact J _ _ (h q y r w1 G)
end
theorem l9(z:Value)(n:Nat):(madeCells z.cells n).size=n:=size_madeCells _ _
theorem ga(t e n size bytes:Nat)(z:Value)(G:Tryz.prog.underlying t=some (.slice e))(y:(Tryz.prog.info? e).map (fun i=>(i.zero,i.size,i.bytes))=some (some z,size,bytes))(r:bytes≤128)(hn:n≤1000000):
 ∃cs:Array Value,cs.size=n*size∧∀W,(Instr.makeSlice t (.int .i64 n) (.int .i64 n)).run Tryz.prog W= .ok (.slice (some ⟨W.heap.size,0,none⟩) n n) (W.alloc (.cells cs e)):=by
 obtain⟨i,hi,h⟩:=sd.1 y;simp only [Prod.mk.injEq]at h;obtain⟨J,U,V⟩:=h;refine⟨madeCells z.cells (n*size),l9 _ _,fun W=>?_⟩;have D:(bytes:Int)*(n:Int)≤281474976710656:=by
  have:bytes*n≤128*1000000:=Nat.mul_le_mul r hn;have q:((bytes*n:Nat):Int)≤281474976710656:=by omega
  rwa [Int.natCast_mul]at q
 have:=run_make (P:=Tryz.prog) W t e i z G hi J .i64 .i64 n n (by omega) (Int.le_refl _) (by rw [V];exact D) (by omega);rw [U]at this;simpa using this
def Cur(g n:Nat)(t:TypeId)(w:World):Prop:=∃h:Array Value,w.heap[g]? =some (.cells h t (0,0))∧h.size=n
theorem Cur.lt{g n:Nat}{t:TypeId}{w:World}(h:Cur g n t w):g<w.heap.size:=by obtain⟨_,h,_⟩:=h;exact bH h
theorem Cur.on{g n:Nat}{t:TypeId}{w w1:World}(q:Below w.heap.size w w1)(h:Cur g n t w):Cur g n t w1:=by obtain⟨c,h,r⟩:=h;exact⟨c,aQ h q,r⟩
theorem Cur.alloc{g n:Nat}{t:TypeId}{w:World}(h:Cur g n t w)(o:Obj):Cur g n t (w.alloc o):=by obtain⟨c,h,q⟩:=h;exact⟨c,ar h o,q⟩
theorem Cur.far{g n:Nat}{t:TypeId}{w:World}(h:Cur g n t w){p:Addr}(hp:g≠p.block)(u:Value):Cur g n t (w.setCell p u):=by obtain⟨c,h,q⟩:=h;exact⟨c,az h hp u,q⟩
theorem Cur.set{g n:Nat}{t:TypeId}{w:World}(h:Cur g n t w)(i:Nat)(u:Value):Cur g n t (w.setCell ⟨g,i,none⟩ u):=by obtain⟨c,h,q⟩:=h;exact⟨_,gV h i u,by simpa using q⟩
theorem Cur.cell{g n:Nat}{t:TypeId}{w:World}(h:Cur g n t w)(i:Nat)(hi:i<n):(∃u,w.cell? ⟨g,i,none⟩=some u)∧w.frozen? ⟨g,i,none⟩=false:=by
 obtain⟨c,h,q⟩:=h;exact⟨⟨c[i],by rw [ab h];exact Array.getElem?_eq_getElem (by omega)⟩,au h i⟩
set_option maxHeartbeats 4000000 in
set_option maxRecDepth 100000 in
theorem jW(nm:ByteArray)(A1 A2 A3 A4:Option Addr)(c1 c2 c3 c4:Nat)(t1:List S86)(t2:List Int)(t3:List S88)(t4:List S90)(w:World)
 (hr1:k86.C w A1 t1.length t1)(hr2:(Kd.int .i64).C w A2 t2.length t2)(hr3:k88.C w A3 t3.length t3)(hr4:k90.C w A4 t4.length t4)
 (h1:t1.length≤1000000)(h2:t2.length≤1000000)(h3:t3.length≤1000000)(h4:t4.length≤1000000)(h3i:∀x∈t3,x.f1.length≤1000000)(h4i:∀x∈t4,x.f0.length≤1000000):
 Calls Tryz.prog 50 #[.agg #[.string nm, .slice A1 t1.length c1, .slice A2 t2.length c2, .slice A3 t3.length c3, .slice A4 t4.length c4]] w (lI w):=by
 have HR1:=rn hr1;have HR2:=rn hr2;have HR3:=rn hr3;have HR4:=rn hr4;have H3I:=rn h3i;have H4I:=rn h4i;obtain⟨m3,hs3,hms3⟩:=ga 45 88 t3.length 3 48 _ Tryz.underlying45 kI (by decide) h3;obtain⟨m4,hs4,hms4⟩:=ga 46 90 t4.length 2 40 _ Tryz.underlying46 kH (by decide) h4;have HS3:=rn hs3;have HS4:=rn hs4;clear hr1 hr2 hr3 hr4 h3i h4i hs3 hs4;have hu48:=Tryz.underlying48;have hu88:=Tryz.underlying88;have hu90:=Tryz.underlying90;have z:=rn (ai (ai (rr w.heap.size w) (.cells #[.string nm, .slice A1 t1.length c1, .slice A2 t2.length c2, .slice A3 t3.length c3, .slice A4 t4.length c4] 48)) (.cells #[.string ⟨#[]⟩, .slice none 0 0, .slice none 0 0, .slice none 0 0, .slice none 0 0] 48));have h:=rn (ar (cl w (.cells #[.string nm, .slice A1 t1.length c1, .slice A2 t2.length c2, .slice A3 t3.length c3, .slice A4 t4.length c4] 48)) (.cells #[.string ⟨#[]⟩, .slice none 0 0, .slice none 0 0, .slice none 0 0, .slice none 0 0] 48));have y:=rn (show((w.alloc (.cells #[.string nm, .slice A1 t1.length c1, .slice A2 t2.length c2, .slice A3 t3.length c3, .slice A4 t4.length c4] 48)).alloc (.cells #[.string ⟨#[]⟩, .slice none 0 0, .slice none 0 0, .slice none 0 0, .slice none 0 0] 48)).heap[w.heap.size+1]? =some (.cells #[.string ⟨#[]⟩, .slice none 0 0, .slice none 0 0, .slice none 0 0, .slice none 0 0] 48 (0,0))from heap_alloc2_new w _ _);go_enter Tryz.func50,Tryz.ntmps50;go_wp2_with (first|(at_builtin;refine eJ k86 43 86 _ _ Tryz.underlying43 kJ (by decide) _ _ ⟨w.heap.size+1+1,0,none⟩ A1 t1.length c1 t1 (Kd.C_below HR1.out (ai z.out (.cells #[] 86))) (by omega) rfl rfl (by rfl) (by rfl) ?_;intro J G U w1 D;have n0:=rn (an (ai z.out (.cells #[] 86)) D);have n2_:=rn (aQ (ar h.out (.cells #[] 86)) D);have n3_:=rn (aQ (ar y.out (.cells #[] 86)) D);clear z h y D;have z:=n0;have h:=n2_;have y:=n3_;clear n0 n2_ n3_;have Z:=bH h.out;have hq0:w1.cell? ⟨w.heap.size,0,none⟩=some (.string nm):=(ab h.out 0).trans rfl;have hqf0:=au h.out 0;have hq1:w1.cell? ⟨w.heap.size,1,none⟩=some (.slice A1 t1.length c1):=(ab h.out 1).trans rfl;have hqf1:=au h.out 1;have hq2:w1.cell? ⟨w.heap.size,2,none⟩=some (.slice A2 t2.length c2):=(ab h.out 2).trans rfl;have hqf2:=au h.out 2;have hq3:w1.cell? ⟨w.heap.size,3,none⟩=some (.slice A3 t3.length c3):=(ab h.out 3).trans rfl;have hqf3:=au h.out 3;have hq4:w1.cell? ⟨w.heap.size,4,none⟩=some (.slice A4 t4.length c4):=(ab h.out 4).trans rfl;have hqf4:=au h.out 4)|(at_builtin;refine eJ (Kd.int .i64) 44 3 _ _ Tryz.underlying44 ig (by decide) _ _ ⟨w1.heap.size,0,none⟩ A2 t2.length c2 t2 (Kd.C_below HR2.out (ai (z.out.setCell (p:=⟨w.heap.size,1,none⟩) (rA _) (.slice J G U)) (.cells #[] 3))) (by omega) rfl rfl (by rfl) (by rfl) ?_;intro V Y X r D;have n0:=rn (an (ai (z.out.setCell (p:=⟨w.heap.size,1,none⟩) (rA _) (.slice J G U)) (.cells #[] 3)) D);have n2_:=rn (aQ (ar (al h.out 1 (.slice J G U) rfl) (.cells #[] 3)) D);have n3_:=rn (aQ (ar (az y.out (p:=⟨w.heap.size,1,none⟩) (by simp) (.slice J G U)) (.cells #[] 3)) D);clear z h y D hq0 hqf0 hq1 hqf1 hq2 hqf2 hq3 hqf3 hq4 hqf4 Z;have z:=n0;have h:=n2_;have y:=n3_;clear n0 n2_ n3_;have Z:=bH h.out;have hq0:r.cell? ⟨w.heap.size,0,none⟩=some (.string nm):=(ab h.out 0).trans rfl;have hqf0:=au h.out 0;have hq1:r.cell? ⟨w.heap.size,1,none⟩=some (.slice J G U):=(ab h.out 1).trans rfl;have hqf1:=au h.out 1;have hq2:r.cell? ⟨w.heap.size,2,none⟩=some (.slice A2 t2.length c2):=(ab h.out 2).trans rfl;have hqf2:=au h.out 2;have hq3:r.cell? ⟨w.heap.size,3,none⟩=some (.slice A3 t3.length c3):=(ab h.out 3).trans rfl;have hqf3:=au h.out 3;have hq4:r.cell? ⟨w.heap.size,4,none⟩=some (.slice A4 t4.length c4):=(ab h.out 4).trans rfl;have hqf4:=au h.out 4));have HBL:=rn (ai (z.out.setCell (p:=⟨w.heap.size,2,none⟩) (rA _) (.slice V Y X)) (.cells m3 88));have HTL:=rn (ar (al h.out 2 (.slice V Y X) rfl) (.cells m3 88));have HRL:=rn (ar (az y.out (p:=⟨w.heap.size,2,none⟩) (by simp) (.slice V Y X)) (.cells m3 88));have HCL:=rn (show Cur r.heap.size (t3.length*3) 88 ((r.setCell ⟨w.heap.size,2,none⟩ (.slice V Y X)).alloc (.cells m3 88))from⟨m3,by simpa [World.setCell]using cl (r.setCell ⟨w.heap.size,2,none⟩ (.slice V Y X)) (.cells m3 88),HS3.out⟩);have hT2:w.heap.size<r.heap.size:=bH h.out;have hR2:w.heap.size+1<r.heap.size:=bH y.out;clear z h y hq0 hqf0 hq1 hqf1 hq2 hqf2 hq3 hqf3 hq4 hqf4 Z;go_wp2_with fail;go_loopw [26] (fun i wr=>∃k:Nat,k≤t3.length∧i= .int .i64 k∧Hid (Below w.heap.size w wr)∧Hid (wr.heap[w.heap.size]? =some (.cells #[.string nm, .slice J G U, .slice V Y X, .slice A3 t3.length c3, .slice A4 t4.length c4] 48 (0,0)))∧Hid (wr.heap[w.heap.size+1]? =some (.cells #[.string ⟨#[]⟩, .slice none 0 0, .slice none 0 0, .slice none 0 0, .slice none 0 0] 48 (0,0)))∧Hid (Cur r.heap.size (t3.length*3) 88 wr)) (fun i _=>t3.length-(intOf i).toNat);case atStart=>exact⟨0,rR _,rfl,HBL,HTL,HRL,HCL⟩
 case round=>
  clear HBL HTL HRL HCL;obtain⟨q,rfl⟩:∃q:World,q=wr:=⟨_,rfl⟩;obtain⟨k,hk,rfl,z,h,y,HC⟩:=hrel;have hgl:=HC.out.lt;have hwl:=z.out.size;by_cases Z:k<t3.length
  ·obtain⟨ad,X1,d1,rfl,b0,b1,b2,b3,b4⟩:=mu HR3.out k Z
   replace b0:=aj z.out b0;replace b1:=aj z.out b1;replace b2:=aj z.out b2;have hin:=H3I.out _ (rL Z);have HXI:=rn b4;clear b4;go_wp2_with (at_builtin;refine eJ (Kd.int .i64) 44 3 _ _ Tryz.underlying44 ig (by decide) _ _ ⟨q.heap.size+1,0,none⟩ X1 t3[k].f1.length d1 t3[k].f1 (Kd.C_below HXI.out (ai (ai z.out (.cells #[.string t3[k].f0, .slice X1 t3[k].f1.length d1, .bool t3[k].f2] 88)) (.cells #[] 3))) (by omega) rfl rfl (by rfl) (by rfl) ?_;intro a G q1 w4 D;have HB4:=rn (an (ai (ai z.out (.cells #[.string t3[k].f0, .slice X1 t3[k].f1.length d1, .bool t3[k].f2] 88)) (.cells #[] 3)) D);have HT4:=rn (aQ (ar (ar h.out (.cells #[.string t3[k].f0, .slice X1 t3[k].f1.length d1, .bool t3[k].f2] 88)) (.cells #[] 3)) D);have HR4B:=rn (aQ (ar (ar y.out (.cells #[.string t3[k].f0, .slice X1 t3[k].f1.length d1, .bool t3[k].f2] 88)) (.cells #[] 3)) D);have ap:=rn (Cur.on D ((HC.out.alloc (.cells #[.string t3[k].f0, .slice X1 t3[k].f1.length d1, .bool t3[k].f2] 88)).alloc (.cells #[] 3)));have am:=rn (aQ (ar (cl q (.cells #[.string t3[k].f0, .slice X1 t3[k].f1.length d1, .bool t3[k].f2] 88)) (.cells #[] 3)) D);clear D;have hxl:=bH am.out;have hgl4:=ap.out.lt;have hx0:w4.cell? ⟨q.heap.size,0,none⟩=some (.string t3[k].f0):=(ab am.out 0).trans rfl;have hxf0:=au am.out 0;have hx1:w4.cell? ⟨q.heap.size,1,none⟩=some (.slice X1 t3[k].f1.length d1):=(ab am.out 1).trans rfl;have hxf1:=au am.out 1;have hx2:w4.cell? ⟨q.heap.size,2,none⟩=some (.bool t3[k].f2):=(ab am.out 2).trans rfl;have hxf2:=au am.out 2;obtain⟨⟨u0,hu0⟩,hv0⟩:=ap.out.cell (k*3) (by omega);obtain⟨⟨u1,hu1⟩,hv1⟩:=ap.out.cell (k*3+1) (by omega);obtain⟨⟨u2,hu2⟩,hv2⟩:=ap.out.cell (k*3+2) (by omega));go_roundw;case rel=>exact⟨k+1,by omega,by go_num,rn ((((HB4.out.setCell (p:=⟨q.heap.size,1,none⟩) hwl _).setCell (p:=⟨r.heap.size,k*3,none⟩) (sy hT2) _).setCell (p:=⟨r.heap.size,k*3+1,none⟩) (sy hT2) _).setCell (p:=⟨r.heap.size,k*3+2,none⟩) (sy hT2) _),rn (az (az (az (az HT4.out (by show w.heap.size≠q.heap.size;omega) _) (by show w.heap.size≠r.heap.size;omega) _) (by show w.heap.size≠r.heap.size;omega) _) (by show w.heap.size≠r.heap.size;omega) _),rn (az (az (az (az HR4B.out (by show w.heap.size+1≠q.heap.size;omega) _) (by show w.heap.size+1≠r.heap.size;omega) _) (by show w.heap.size+1≠r.heap.size;omega) _) (by show w.heap.size+1≠r.heap.size;omega) _),rn ((((ap.out.far (by show r.heap.size≠q.heap.size;omega) _).set _ _).set _ _).set _ _)⟩
   case measure=>simp [intOf];omega
  ·have hkl:k=t3.length:=by omega
   subst hkl;clear HC hgl Z;have Z:=bH h.out;have hq0:q.cell? ⟨w.heap.size,0,none⟩=some (.string nm):=(ab h.out 0).trans rfl;have hqf0:=au h.out 0;have hq1:q.cell? ⟨w.heap.size,1,none⟩=some (.slice J G U):=(ab h.out 1).trans rfl;have hqf1:=au h.out 1;have hq2:q.cell? ⟨w.heap.size,2,none⟩=some (.slice V Y X):=(ab h.out 2).trans rfl;have hqf2:=au h.out 2;have hq3:q.cell? ⟨w.heap.size,3,none⟩=some (.slice A3 t3.length c3):=(ab h.out 3).trans rfl;have hqf3:=au h.out 3;have hq4:q.cell? ⟨w.heap.size,4,none⟩=some (.slice A4 t4.length c4):=(ab h.out 4).trans rfl;have hqf4:=au h.out 4;have HBL:=rn (ai (z.out.setCell (p:=⟨w.heap.size,3,none⟩) (rA _) (.slice (some ⟨r.heap.size,0,none⟩) t3.length t3.length)) (.cells m4 90));have HTL:=rn (ar (al h.out 3 (.slice (some ⟨r.heap.size,0,none⟩) t3.length t3.length) rfl) (.cells m4 90));have HRL:=rn (ar (az y.out (p:=⟨w.heap.size,3,none⟩) (by simp) (.slice (some ⟨r.heap.size,0,none⟩) t3.length t3.length)) (.cells m4 90));have HCL:=rn (show Cur q.heap.size (t4.length*2) 90 ((q.setCell ⟨w.heap.size,3,none⟩ (.slice (some ⟨r.heap.size,0,none⟩) t3.length t3.length)).alloc (.cells m4 90))from⟨m4,by simpa [World.setCell]using cl (q.setCell ⟨w.heap.size,3,none⟩ (.slice (some ⟨r.heap.size,0,none⟩) t3.length t3.length)) (.cells m4 90),HS4.out⟩);have hT3:w.heap.size<q.heap.size:=bH h.out;have hR3:w.heap.size+1<q.heap.size:=bH y.out;clear z h y hwl;go_wp2_with fail;clear hq0 hqf0 hq1 hqf1 hq2 hqf2 hq3 hqf3 hq4 hqf4 Z;go_loopw [50] (fun i wr=>∃k:Nat,k≤t4.length∧i= .int .i64 k∧Hid (Below w.heap.size w wr)∧Hid (wr.heap[w.heap.size]? =some (.cells #[.string nm, .slice J G U, .slice V Y X, .slice (some ⟨r.heap.size,0,none⟩) t3.length t3.length, .slice A4 t4.length c4] 48 (0,0)))∧Hid (wr.heap[w.heap.size+1]? =some (.cells #[.string ⟨#[]⟩, .slice none 0 0, .slice none 0 0, .slice none 0 0, .slice none 0 0] 48 (0,0)))∧Hid (Cur q.heap.size (t4.length*2) 90 wr)) (fun i _=>t4.length-(intOf i).toNat);case atStart=>exact⟨0,rR _,rfl,HBL,HTL,HRL,HCL⟩
   case round=>
    clear HBL HTL HRL HCL;obtain⟨wp,rfl⟩:∃wp:World,wp=wr:=⟨_,rfl⟩;obtain⟨k,hk,rfl,z,h,y,HC⟩:=hrel;have hgl:=HC.out.lt;have hwl:=z.out.size;by_cases Z:k<t4.length
    ·obtain⟨ad,X0,d0,rfl,b0,b1,b3,b4⟩:=o5 HR4.out k Z
     replace b0:=aj z.out b0;replace b1:=aj z.out b1;have hin:=H4I.out _ (rL Z);have HXI:=rn b4;clear b4;go_wp2_with (at_builtin;refine eJ (Kd.int .i64) 44 3 _ _ Tryz.underlying44 ig (by decide) _ _ ⟨wp.heap.size+1,0,none⟩ X0 t4[k].f0.length d0 t4[k].f0 (Kd.C_below HXI.out (ai (ai z.out (.cells #[.slice X0 t4[k].f0.length d0, .string t4[k].f1] 90)) (.cells #[] 3))) (by omega) rfl rfl (by rfl) (by rfl) ?_;intro a G q1 w4 D;have HB4:=rn (an (ai (ai z.out (.cells #[.slice X0 t4[k].f0.length d0, .string t4[k].f1] 90)) (.cells #[] 3)) D);have HT4:=rn (aQ (ar (ar h.out (.cells #[.slice X0 t4[k].f0.length d0, .string t4[k].f1] 90)) (.cells #[] 3)) D);have HR4B:=rn (aQ (ar (ar y.out (.cells #[.slice X0 t4[k].f0.length d0, .string t4[k].f1] 90)) (.cells #[] 3)) D);have ap:=rn (Cur.on D ((HC.out.alloc (.cells #[.slice X0 t4[k].f0.length d0, .string t4[k].f1] 90)).alloc (.cells #[] 3)));have am:=rn (aQ (ar (cl wp (.cells #[.slice X0 t4[k].f0.length d0, .string t4[k].f1] 90)) (.cells #[] 3)) D);clear D;have hxl:=bH am.out;have hgl4:=ap.out.lt;have hx0:w4.cell? ⟨wp.heap.size,0,none⟩=some (.slice X0 t4[k].f0.length d0):=(ab am.out 0).trans rfl;have hxf0:=au am.out 0;have hx1:w4.cell? ⟨wp.heap.size,1,none⟩=some (.string t4[k].f1):=(ab am.out 1).trans rfl;have hxf1:=au am.out 1;obtain⟨⟨u0,hu0⟩,hv0⟩:=ap.out.cell (k*2) (by omega);obtain⟨⟨u1,hu1⟩,hv1⟩:=ap.out.cell (k*2+1) (by omega));go_roundw;case rel=>exact⟨k+1,by omega,by go_num,rn (((HB4.out.setCell (p:=⟨wp.heap.size,0,none⟩) hwl _).setCell (p:=⟨q.heap.size,k*2,none⟩) (sy hT3) _).setCell (p:=⟨q.heap.size,k*2+1,none⟩) (sy hT3) _),rn (az (az (az HT4.out (by show w.heap.size≠wp.heap.size;omega) _) (by show w.heap.size≠q.heap.size;omega) _) (by show w.heap.size≠q.heap.size;omega) _),rn (az (az (az HR4B.out (by show w.heap.size+1≠wp.heap.size;omega) _) (by show w.heap.size+1≠q.heap.size;omega) _) (by show w.heap.size+1≠q.heap.size;omega) _),rn (((ap.out.far (by show q.heap.size≠wp.heap.size;omega) _).set _ _).set _ _)⟩
     case measure=>simp [intOf];omega
    ·have hkl:k=t4.length:=by omega
     subst hkl;clear HC hgl Z;have Z:=bH h.out;have hlr:=bH y.out;have hq0:wp.cell? ⟨w.heap.size,0,none⟩=some (.string nm):=(ab h.out 0).trans rfl;have hqf0:=au h.out 0;have hq1:wp.cell? ⟨w.heap.size,1,none⟩=some (.slice J G U):=(ab h.out 1).trans rfl;have hqf1:=au h.out 1;have hq2:wp.cell? ⟨w.heap.size,2,none⟩=some (.slice V Y X):=(ab h.out 2).trans rfl;have hqf2:=au h.out 2;have hq3:wp.cell? ⟨w.heap.size,3,none⟩=some (.slice (some ⟨r.heap.size,0,none⟩) t3.length t3.length):=(ab h.out 3).trans rfl;have hqf3:=au h.out 3;have hq4:wp.cell? ⟨w.heap.size,4,none⟩=some (.slice A4 t4.length c4):=(ab h.out 4).trans rfl;have hqf4:=au h.out 4;have hz0:wp.cell? ⟨w.heap.size+1,0,none⟩=some (.string ⟨#[]⟩):=(ab y.out 0).trans rfl;have hzf0:=au y.out 0;have hz1:wp.cell? ⟨w.heap.size+1,1,none⟩=some (.slice none 0 0):=(ab y.out 1).trans rfl;have hzf1:=au y.out 1;have hz2:wp.cell? ⟨w.heap.size+1,2,none⟩=some (.slice none 0 0):=(ab y.out 2).trans rfl;have hzf2:=au y.out 2;have hz3:wp.cell? ⟨w.heap.size+1,3,none⟩=some (.slice none 0 0):=(ab y.out 3).trans rfl;have hzf3:=au y.out 3;have hz4:wp.cell? ⟨w.heap.size+1,4,none⟩=some (.slice none 0 0):=(ab y.out 4).trans rfl;have hzf4:=au y.out 4;have HF0:=az y.out (p:=⟨w.heap.size,4,none⟩) (by simp) (.slice (some ⟨q.heap.size,0,none⟩) t4.length t4.length);have HF1:=al HF0 0 (.string nm) (cs':= #[.string nm, .slice none 0 0, .slice none 0 0, .slice none 0 0, .slice none 0 0]) rfl;have HF2:=al HF1 1 (.slice J G U) (cs':= #[.string nm, .slice J G U, .slice none 0 0, .slice none 0 0, .slice none 0 0]) rfl;have HF3:=al HF2 2 (.slice V Y X) (cs':= #[.string nm, .slice J G U, .slice V Y X, .slice none 0 0, .slice none 0 0]) rfl;have HF4:=al HF3 3 (.slice (some ⟨r.heap.size,0,none⟩) t3.length t3.length) (cs':= #[.string nm, .slice J G U, .slice V Y X, .slice (some ⟨r.heap.size,0,none⟩) t3.length t3.length, .slice none 0 0]) rfl;have HF5:=al HF4 4 (.slice (some ⟨q.heap.size,0,none⟩) t4.length t4.length) (cs':= #[.string nm, .slice J G U, .slice V Y X, .slice (some ⟨r.heap.size,0,none⟩) t3.length t3.length, .slice (some ⟨q.heap.size,0,none⟩) t4.length t4.length]) rfl;have HF:=rn HF5;have HBF:=rn ((((((z.out.setCell (p:=⟨w.heap.size,4,none⟩) (rA _) (.slice (some ⟨q.heap.size,0,none⟩) t4.length t4.length)).setCell (p:=⟨w.heap.size+1,0,none⟩) (sa _) (.string nm)).setCell (p:=⟨w.heap.size+1,1,none⟩) (sa _) (.slice J G U)).setCell (p:=⟨w.heap.size+1,2,none⟩) (sa _) (.slice V Y X)).setCell (p:=⟨w.heap.size+1,3,none⟩) (sa _) (.slice (some ⟨r.heap.size,0,none⟩) t3.length t3.length)).setCell (p:=⟨w.heap.size+1,4,none⟩) (sa _) (.slice (some ⟨q.heap.size,0,none⟩) t4.length t4.length));clear HF0 HF1 HF2 HF3 HF4 HF5;go_wp2_with fail;refine rN (v:= .agg #[.string nm, .slice J G U, .slice V Y X, .slice (some ⟨r.heap.size,0,none⟩) t3.length t3.length, .slice (some ⟨q.heap.size,0,none⟩) t4.length t4.length]) (so rfl _ _ (w.heap.size+1) 48 _ (0,0) _ rfl HF.out hu48 rfl (by kernel_rfl)) rfl ⟨_,_,_,_,_,_,_,_,_,_,_,_,_,rfl,HBF.out⟩
set_option maxHeartbeats 4000000 in
set_option maxRecDepth 100000 in
theorem kj(nm:ByteArray)(A1 A2 A3 A4:Option Addr)(c1 c2 c3 c4:Nat)(t1:List S86)(t2:List Int)(t3:List S88)(t4:List S90)(w:World)
 (hr1:k86.C w A1 t1.length t1)(hr2:(Kd.int .i64).C w A2 t2.length t2)(hr3:k88.C w A3 t3.length t3)(hr4:k90.C w A4 t4.length t4)
 (h1:t1.length≤1000000)(h2:t2.length≤1000000)(h3:t3.length≤1000000)(h4:t4.length≤1000000)(h3i:∀x∈t3,x.f1.length≤1000000)(h4i:∀x∈t4,x.f0.length≤1000000):
 Calls Tryz.prog 75 #[.agg #[.string nm, .slice A1 t1.length c1, .slice A2 t2.length c2, .slice A3 t3.length c3, .slice A4 t4.length c4]] w (lI w):=by
 have HR1:=rn hr1;have HR2:=rn hr2;have HR3:=rn hr3;have HR4:=rn hr4;have H3I:=rn h3i;have H4I:=rn h4i;obtain⟨m3,hs3,hms3⟩:=ga 45 88 t3.length 3 48 _ Tryz.underlying45 kI (by decide) h3;obtain⟨m4,hs4,hms4⟩:=ga 46 90 t4.length 2 40 _ Tryz.underlying46 kH (by decide) h4;have HS3:=rn hs3;have HS4:=rn hs4;clear hr1 hr2 hr3 hr4 h3i h4i hs3 hs4;have hu48:=Tryz.underlying48;have hu88:=Tryz.underlying88;have hu90:=Tryz.underlying90;have z:=rn (ai (ai (rr w.heap.size w) (.cells #[.string nm, .slice A1 t1.length c1, .slice A2 t2.length c2, .slice A3 t3.length c3, .slice A4 t4.length c4] 48)) (.cells #[.string ⟨#[]⟩, .slice none 0 0, .slice none 0 0, .slice none 0 0, .slice none 0 0] 48));have h:=rn (ar (cl w (.cells #[.string nm, .slice A1 t1.length c1, .slice A2 t2.length c2, .slice A3 t3.length c3, .slice A4 t4.length c4] 48)) (.cells #[.string ⟨#[]⟩, .slice none 0 0, .slice none 0 0, .slice none 0 0, .slice none 0 0] 48));have y:=rn (show((w.alloc (.cells #[.string nm, .slice A1 t1.length c1, .slice A2 t2.length c2, .slice A3 t3.length c3, .slice A4 t4.length c4] 48)).alloc (.cells #[.string ⟨#[]⟩, .slice none 0 0, .slice none 0 0, .slice none 0 0, .slice none 0 0] 48)).heap[w.heap.size+1]? =some (.cells #[.string ⟨#[]⟩, .slice none 0 0, .slice none 0 0, .slice none 0 0, .slice none 0 0] 48 (0,0))from heap_alloc2_new w _ _);go_enter Tryz.func75,Tryz.ntmps75;go_wp2_with (first|(at_builtin;refine eJ k86 43 86 _ _ Tryz.underlying43 kJ (by decide) _ _ ⟨w.heap.size+1+1,0,none⟩ A1 t1.length c1 t1 (Kd.C_below HR1.out (ai z.out (.cells #[] 86))) (by omega) rfl rfl (by rfl) (by rfl) ?_;intro J G U w1 D;have n0:=rn (an (ai z.out (.cells #[] 86)) D);have n2_:=rn (aQ (ar h.out (.cells #[] 86)) D);have n3_:=rn (aQ (ar y.out (.cells #[] 86)) D);clear z h y D;have z:=n0;have h:=n2_;have y:=n3_;clear n0 n2_ n3_;have Z:=bH h.out;have hq0:w1.cell? ⟨w.heap.size,0,none⟩=some (.string nm):=(ab h.out 0).trans rfl;have hqf0:=au h.out 0;have hq1:w1.cell? ⟨w.heap.size,1,none⟩=some (.slice A1 t1.length c1):=(ab h.out 1).trans rfl;have hqf1:=au h.out 1;have hq2:w1.cell? ⟨w.heap.size,2,none⟩=some (.slice A2 t2.length c2):=(ab h.out 2).trans rfl;have hqf2:=au h.out 2;have hq3:w1.cell? ⟨w.heap.size,3,none⟩=some (.slice A3 t3.length c3):=(ab h.out 3).trans rfl;have hqf3:=au h.out 3;have hq4:w1.cell? ⟨w.heap.size,4,none⟩=some (.slice A4 t4.length c4):=(ab h.out 4).trans rfl;have hqf4:=au h.out 4)|(at_builtin;refine eJ (Kd.int .i64) 44 3 _ _ Tryz.underlying44 ig (by decide) _ _ ⟨w1.heap.size,0,none⟩ A2 t2.length c2 t2 (Kd.C_below HR2.out (ai (z.out.setCell (p:=⟨w.heap.size,1,none⟩) (rA _) (.slice J G U)) (.cells #[] 3))) (by omega) rfl rfl (by rfl) (by rfl) ?_;intro V Y X r D;have n0:=rn (an (ai (z.out.setCell (p:=⟨w.heap.size,1,none⟩) (rA _) (.slice J G U)) (.cells #[] 3)) D);have n2_:=rn (aQ (ar (al h.out 1 (.slice J G U) rfl) (.cells #[] 3)) D);have n3_:=rn (aQ (ar (az y.out (p:=⟨w.heap.size,1,none⟩) (by simp) (.slice J G U)) (.cells #[] 3)) D);clear z h y D hq0 hqf0 hq1 hqf1 hq2 hqf2 hq3 hqf3 hq4 hqf4 Z;have z:=n0;have h:=n2_;have y:=n3_;clear n0 n2_ n3_;have Z:=bH h.out;have hq0:r.cell? ⟨w.heap.size,0,none⟩=some (.string nm):=(ab h.out 0).trans rfl;have hqf0:=au h.out 0;have hq1:r.cell? ⟨w.heap.size,1,none⟩=some (.slice J G U):=(ab h.out 1).trans rfl;have hqf1:=au h.out 1;have hq2:r.cell? ⟨w.heap.size,2,none⟩=some (.slice A2 t2.length c2):=(ab h.out 2).trans rfl;have hqf2:=au h.out 2;have hq3:r.cell? ⟨w.heap.size,3,none⟩=some (.slice A3 t3.length c3):=(ab h.out 3).trans rfl;have hqf3:=au h.out 3;have hq4:r.cell? ⟨w.heap.size,4,none⟩=some (.slice A4 t4.length c4):=(ab h.out 4).trans rfl;have hqf4:=au h.out 4));have HBL:=rn (ai (z.out.setCell (p:=⟨w.heap.size,2,none⟩) (rA _) (.slice V Y X)) (.cells m3 88));have HTL:=rn (ar (al h.out 2 (.slice V Y X) rfl) (.cells m3 88));have HRL:=rn (ar (az y.out (p:=⟨w.heap.size,2,none⟩) (by simp) (.slice V Y X)) (.cells m3 88));have HCL:=rn (show Cur r.heap.size (t3.length*3) 88 ((r.setCell ⟨w.heap.size,2,none⟩ (.slice V Y X)).alloc (.cells m3 88))from⟨m3,by simpa [World.setCell]using cl (r.setCell ⟨w.heap.size,2,none⟩ (.slice V Y X)) (.cells m3 88),HS3.out⟩);have hT2:w.heap.size<r.heap.size:=bH h.out;have hR2:w.heap.size+1<r.heap.size:=bH y.out;clear z h y hq0 hqf0 hq1 hqf1 hq2 hqf2 hq3 hqf3 hq4 hqf4 Z;go_wp2_with fail;go_loopw [26] (fun i wr=>∃k:Nat,k≤t3.length∧i= .int .i64 k∧Hid (Below w.heap.size w wr)∧Hid (wr.heap[w.heap.size]? =some (.cells #[.string nm, .slice J G U, .slice V Y X, .slice A3 t3.length c3, .slice A4 t4.length c4] 48 (0,0)))∧Hid (wr.heap[w.heap.size+1]? =some (.cells #[.string ⟨#[]⟩, .slice none 0 0, .slice none 0 0, .slice none 0 0, .slice none 0 0] 48 (0,0)))∧Hid (Cur r.heap.size (t3.length*3) 88 wr)) (fun i _=>t3.length-(intOf i).toNat);case atStart=>exact⟨0,rR _,rfl,HBL,HTL,HRL,HCL⟩
 case round=>
  clear HBL HTL HRL HCL;obtain⟨q,rfl⟩:∃q:World,q=wr:=⟨_,rfl⟩;obtain⟨k,hk,rfl,z,h,y,HC⟩:=hrel;have hgl:=HC.out.lt;have hwl:=z.out.size;by_cases Z:k<t3.length
  ·obtain⟨ad,X1,d1,rfl,b0,b1,b2,b3,b4⟩:=mu HR3.out k Z
   replace b0:=aj z.out b0;replace b1:=aj z.out b1;replace b2:=aj z.out b2;have hin:=H3I.out _ (rL Z);have HXI:=rn b4;clear b4;go_wp2_with (at_builtin;refine eJ (Kd.int .i64) 44 3 _ _ Tryz.underlying44 ig (by decide) _ _ ⟨q.heap.size+1,0,none⟩ X1 t3[k].f1.length d1 t3[k].f1 (Kd.C_below HXI.out (ai (ai z.out (.cells #[.string t3[k].f0, .slice X1 t3[k].f1.length d1, .bool t3[k].f2] 88)) (.cells #[] 3))) (by omega) rfl rfl (by rfl) (by rfl) ?_;intro a G q1 w4 D;have HB4:=rn (an (ai (ai z.out (.cells #[.string t3[k].f0, .slice X1 t3[k].f1.length d1, .bool t3[k].f2] 88)) (.cells #[] 3)) D);have HT4:=rn (aQ (ar (ar h.out (.cells #[.string t3[k].f0, .slice X1 t3[k].f1.length d1, .bool t3[k].f2] 88)) (.cells #[] 3)) D);have HR4B:=rn (aQ (ar (ar y.out (.cells #[.string t3[k].f0, .slice X1 t3[k].f1.length d1, .bool t3[k].f2] 88)) (.cells #[] 3)) D);have ap:=rn (Cur.on D ((HC.out.alloc (.cells #[.string t3[k].f0, .slice X1 t3[k].f1.length d1, .bool t3[k].f2] 88)).alloc (.cells #[] 3)));have am:=rn (aQ (ar (cl q (.cells #[.string t3[k].f0, .slice X1 t3[k].f1.length d1, .bool t3[k].f2] 88)) (.cells #[] 3)) D);clear D;have hxl:=bH am.out;have hgl4:=ap.out.lt;have hx0:w4.cell? ⟨q.heap.size,0,none⟩=some (.string t3[k].f0):=(ab am.out 0).trans rfl;have hxf0:=au am.out 0;have hx1:w4.cell? ⟨q.heap.size,1,none⟩=some (.slice X1 t3[k].f1.length d1):=(ab am.out 1).trans rfl;have hxf1:=au am.out 1;have hx2:w4.cell? ⟨q.heap.size,2,none⟩=some (.bool t3[k].f2):=(ab am.out 2).trans rfl;have hxf2:=au am.out 2;obtain⟨⟨u0,hu0⟩,hv0⟩:=ap.out.cell (k*3) (by omega);obtain⟨⟨u1,hu1⟩,hv1⟩:=ap.out.cell (k*3+1) (by omega);obtain⟨⟨u2,hu2⟩,hv2⟩:=ap.out.cell (k*3+2) (by omega));go_roundw;case rel=>exact⟨k+1,by omega,by go_num,rn ((((HB4.out.setCell (p:=⟨q.heap.size,1,none⟩) hwl _).setCell (p:=⟨r.heap.size,k*3,none⟩) (sy hT2) _).setCell (p:=⟨r.heap.size,k*3+1,none⟩) (sy hT2) _).setCell (p:=⟨r.heap.size,k*3+2,none⟩) (sy hT2) _),rn (az (az (az (az HT4.out (by show w.heap.size≠q.heap.size;omega) _) (by show w.heap.size≠r.heap.size;omega) _) (by show w.heap.size≠r.heap.size;omega) _) (by show w.heap.size≠r.heap.size;omega) _),rn (az (az (az (az HR4B.out (by show w.heap.size+1≠q.heap.size;omega) _) (by show w.heap.size+1≠r.heap.size;omega) _) (by show w.heap.size+1≠r.heap.size;omega) _) (by show w.heap.size+1≠r.heap.size;omega) _),rn ((((ap.out.far (by show r.heap.size≠q.heap.size;omega) _).set _ _).set _ _).set _ _)⟩
   case measure=>simp [intOf];omega
  ·have hkl:k=t3.length:=by omega
   subst hkl;clear HC hgl Z;have Z:=bH h.out;have hq0:q.cell? ⟨w.heap.size,0,none⟩=some (.string nm):=(ab h.out 0).trans rfl;have hqf0:=au h.out 0;have hq1:q.cell? ⟨w.heap.size,1,none⟩=some (.slice J G U):=(ab h.out 1).trans rfl;have hqf1:=au h.out 1;have hq2:q.cell? ⟨w.heap.size,2,none⟩=some (.slice V Y X):=(ab h.out 2).trans rfl;have hqf2:=au h.out 2;have hq3:q.cell? ⟨w.heap.size,3,none⟩=some (.slice A3 t3.length c3):=(ab h.out 3).trans rfl;have hqf3:=au h.out 3;have hq4:q.cell? ⟨w.heap.size,4,none⟩=some (.slice A4 t4.length c4):=(ab h.out 4).trans rfl;have hqf4:=au h.out 4;have HBL:=rn (ai (z.out.setCell (p:=⟨w.heap.size,3,none⟩) (rA _) (.slice (some ⟨r.heap.size,0,none⟩) t3.length t3.length)) (.cells m4 90));have HTL:=rn (ar (al h.out 3 (.slice (some ⟨r.heap.size,0,none⟩) t3.length t3.length) rfl) (.cells m4 90));have HRL:=rn (ar (az y.out (p:=⟨w.heap.size,3,none⟩) (by simp) (.slice (some ⟨r.heap.size,0,none⟩) t3.length t3.length)) (.cells m4 90));have HCL:=rn (show Cur q.heap.size (t4.length*2) 90 ((q.setCell ⟨w.heap.size,3,none⟩ (.slice (some ⟨r.heap.size,0,none⟩) t3.length t3.length)).alloc (.cells m4 90))from⟨m4,by simpa [World.setCell]using cl (q.setCell ⟨w.heap.size,3,none⟩ (.slice (some ⟨r.heap.size,0,none⟩) t3.length t3.length)) (.cells m4 90),HS4.out⟩);have hT3:w.heap.size<q.heap.size:=bH h.out;have hR3:w.heap.size+1<q.heap.size:=bH y.out;clear z h y hwl;go_wp2_with fail;clear hq0 hqf0 hq1 hqf1 hq2 hqf2 hq3 hqf3 hq4 hqf4 Z;go_loopw [50] (fun i wr=>∃k:Nat,k≤t4.length∧i= .int .i64 k∧Hid (Below w.heap.size w wr)∧Hid (wr.heap[w.heap.size]? =some (.cells #[.string nm, .slice J G U, .slice V Y X, .slice (some ⟨r.heap.size,0,none⟩) t3.length t3.length, .slice A4 t4.length c4] 48 (0,0)))∧Hid (wr.heap[w.heap.size+1]? =some (.cells #[.string ⟨#[]⟩, .slice none 0 0, .slice none 0 0, .slice none 0 0, .slice none 0 0] 48 (0,0)))∧Hid (Cur q.heap.size (t4.length*2) 90 wr)) (fun i _=>t4.length-(intOf i).toNat);case atStart=>exact⟨0,rR _,rfl,HBL,HTL,HRL,HCL⟩
   case round=>
    clear HBL HTL HRL HCL;obtain⟨wp,rfl⟩:∃wp:World,wp=wr:=⟨_,rfl⟩;obtain⟨k,hk,rfl,z,h,y,HC⟩:=hrel;have hgl:=HC.out.lt;have hwl:=z.out.size;by_cases Z:k<t4.length
    ·obtain⟨ad,X0,d0,rfl,b0,b1,b3,b4⟩:=o5 HR4.out k Z
     replace b0:=aj z.out b0;replace b1:=aj z.out b1;have hin:=H4I.out _ (rL Z);have HXI:=rn b4;clear b4;go_wp2_with (at_builtin;refine eJ (Kd.int .i64) 44 3 _ _ Tryz.underlying44 ig (by decide) _ _ ⟨wp.heap.size+1,0,none⟩ X0 t4[k].f0.length d0 t4[k].f0 (Kd.C_below HXI.out (ai (ai z.out (.cells #[.slice X0 t4[k].f0.length d0, .string t4[k].f1] 90)) (.cells #[] 3))) (by omega) rfl rfl (by rfl) (by rfl) ?_;intro a G q1 w4 D;have HB4:=rn (an (ai (ai z.out (.cells #[.slice X0 t4[k].f0.length d0, .string t4[k].f1] 90)) (.cells #[] 3)) D);have HT4:=rn (aQ (ar (ar h.out (.cells #[.slice X0 t4[k].f0.length d0, .string t4[k].f1] 90)) (.cells #[] 3)) D);have HR4B:=rn (aQ (ar (ar y.out (.cells #[.slice X0 t4[k].f0.length d0, .string t4[k].f1] 90)) (.cells #[] 3)) D);have ap:=rn (Cur.on D ((HC.out.alloc (.cells #[.slice X0 t4[k].f0.length d0, .string t4[k].f1] 90)).alloc (.cells #[] 3)));have am:=rn (aQ (ar (cl wp (.cells #[.slice X0 t4[k].f0.length d0, .string t4[k].f1] 90)) (.cells #[] 3)) D);clear D;have hxl:=bH am.out;have hgl4:=ap.out.lt;have hx0:w4.cell? ⟨wp.heap.size,0,none⟩=some (.slice X0 t4[k].f0.length d0):=(ab am.out 0).trans rfl;have hxf0:=au am.out 0;have hx1:w4.cell? ⟨wp.heap.size,1,none⟩=some (.string t4[k].f1):=(ab am.out 1).trans rfl;have hxf1:=au am.out 1;obtain⟨⟨u0,hu0⟩,hv0⟩:=ap.out.cell (k*2) (by omega);obtain⟨⟨u1,hu1⟩,hv1⟩:=ap.out.cell (k*2+1) (by omega));go_roundw;case rel=>exact⟨k+1,by omega,by go_num,rn (((HB4.out.setCell (p:=⟨wp.heap.size,0,none⟩) hwl _).setCell (p:=⟨q.heap.size,k*2,none⟩) (sy hT3) _).setCell (p:=⟨q.heap.size,k*2+1,none⟩) (sy hT3) _),rn (az (az (az HT4.out (by show w.heap.size≠wp.heap.size;omega) _) (by show w.heap.size≠q.heap.size;omega) _) (by show w.heap.size≠q.heap.size;omega) _),rn (az (az (az HR4B.out (by show w.heap.size+1≠wp.heap.size;omega) _) (by show w.heap.size+1≠q.heap.size;omega) _) (by show w.heap.size+1≠q.heap.size;omega) _),rn (((ap.out.far (by show q.heap.size≠wp.heap.size;omega) _).set _ _).set _ _)⟩
     case measure=>simp [intOf];omega
    ·have hkl:k=t4.length:=by omega
     subst hkl;clear HC hgl Z;have Z:=bH h.out;have hlr:=bH y.out;have hq0:wp.cell? ⟨w.heap.size,0,none⟩=some (.string nm):=(ab h.out 0).trans rfl;have hqf0:=au h.out 0;have hq1:wp.cell? ⟨w.heap.size,1,none⟩=some (.slice J G U):=(ab h.out 1).trans rfl;have hqf1:=au h.out 1;have hq2:wp.cell? ⟨w.heap.size,2,none⟩=some (.slice V Y X):=(ab h.out 2).trans rfl;have hqf2:=au h.out 2;have hq3:wp.cell? ⟨w.heap.size,3,none⟩=some (.slice (some ⟨r.heap.size,0,none⟩) t3.length t3.length):=(ab h.out 3).trans rfl;have hqf3:=au h.out 3;have hq4:wp.cell? ⟨w.heap.size,4,none⟩=some (.slice A4 t4.length c4):=(ab h.out 4).trans rfl;have hqf4:=au h.out 4;have hz0:wp.cell? ⟨w.heap.size+1,0,none⟩=some (.string ⟨#[]⟩):=(ab y.out 0).trans rfl;have hzf0:=au y.out 0;have hz1:wp.cell? ⟨w.heap.size+1,1,none⟩=some (.slice none 0 0):=(ab y.out 1).trans rfl;have hzf1:=au y.out 1;have hz2:wp.cell? ⟨w.heap.size+1,2,none⟩=some (.slice none 0 0):=(ab y.out 2).trans rfl;have hzf2:=au y.out 2;have hz3:wp.cell? ⟨w.heap.size+1,3,none⟩=some (.slice none 0 0):=(ab y.out 3).trans rfl;have hzf3:=au y.out 3;have hz4:wp.cell? ⟨w.heap.size+1,4,none⟩=some (.slice none 0 0):=(ab y.out 4).trans rfl;have hzf4:=au y.out 4;have HF0:=az y.out (p:=⟨w.heap.size,4,none⟩) (by simp) (.slice (some ⟨q.heap.size,0,none⟩) t4.length t4.length);have HF1:=al HF0 0 (.string nm) (cs':= #[.string nm, .slice none 0 0, .slice none 0 0, .slice none 0 0, .slice none 0 0]) rfl;have HF2:=al HF1 1 (.slice J G U) (cs':= #[.string nm, .slice J G U, .slice none 0 0, .slice none 0 0, .slice none 0 0]) rfl;have HF3:=al HF2 2 (.slice V Y X) (cs':= #[.string nm, .slice J G U, .slice V Y X, .slice none 0 0, .slice none 0 0]) rfl;have HF4:=al HF3 3 (.slice (some ⟨r.heap.size,0,none⟩) t3.length t3.length) (cs':= #[.string nm, .slice J G U, .slice V Y X, .slice (some ⟨r.heap.size,0,none⟩) t3.length t3.length, .slice none 0 0]) rfl;have HF5:=al HF4 4 (.slice (some ⟨q.heap.size,0,none⟩) t4.length t4.length) (cs':= #[.string nm, .slice J G U, .slice V Y X, .slice (some ⟨r.heap.size,0,none⟩) t3.length t3.length, .slice (some ⟨q.heap.size,0,none⟩) t4.length t4.length]) rfl;have HF:=rn HF5;have HBF:=rn ((((((z.out.setCell (p:=⟨w.heap.size,4,none⟩) (rA _) (.slice (some ⟨q.heap.size,0,none⟩) t4.length t4.length)).setCell (p:=⟨w.heap.size+1,0,none⟩) (sa _) (.string nm)).setCell (p:=⟨w.heap.size+1,1,none⟩) (sa _) (.slice J G U)).setCell (p:=⟨w.heap.size+1,2,none⟩) (sa _) (.slice V Y X)).setCell (p:=⟨w.heap.size+1,3,none⟩) (sa _) (.slice (some ⟨r.heap.size,0,none⟩) t3.length t3.length)).setCell (p:=⟨w.heap.size+1,4,none⟩) (sa _) (.slice (some ⟨q.heap.size,0,none⟩) t4.length t4.length));clear HF0 HF1 HF2 HF3 HF4 HF5;go_wp2_with fail;refine rN (v:= .agg #[.string nm, .slice J G U, .slice V Y X, .slice (some ⟨r.heap.size,0,none⟩) t3.length t3.length, .slice (some ⟨q.heap.size,0,none⟩) t4.length t4.length]) (so rfl _ _ (w.heap.size+1) 48 _ (0,0) _ rfl HF.out hu48 rfl (by kernel_rfl)) rfl ⟨_,_,_,_,_,_,_,_,_,_,_,_,_,rfl,HBF.out⟩
def iP(e:TypeId)(W q:World):Prop:=∀(g:Nat) (cs:Array Value) (t:TypeId) (h:Nat×Nat),W.heap[g]? =some (Obj.cells cs t h)→t≠e→q.heap[g]? =some (Obj.cells cs t h)
def dw(base e sz m:Nat)(v:Value)(w:World):Prop:=(∃A n c,v= .slice A n c)∧∃n xs,n≤m∧w.ownsRow base e sz v n xs
theorem kW(w:World)(o:Obj):(w.alloc o).heap.size=w.heap.size+1:=by simp
theorem dw.nil(base e sz:Nat)(w:World):dw base e sz 0 (.slice none 0 0) w:=⟨⟨_,_,_,rfl⟩,0,[],rA _,lh w base e sz⟩
theorem dw.mono{base e sz m q:Nat}{v:Value}{w:World}(h:dw base e sz m v w)(y:m≤q):dw base e sz q v w:=by
 obtain⟨r,n,xs,hn,ho⟩:=h;exact⟨r,n,xs,by omega,ho⟩
theorem dw.on{base e sz m:Nat}{v:Value}{w w1:World}(q:Below w.heap.size w w1)(h:dw base e sz m v w):dw base e sz m v w1:=by
 obtain⟨r,n,xs,hn,ho⟩:=h;exact⟨r,n,xs,hn,iU ho q⟩
theorem dw.keep{base e e' sz m:Nat}{v:Value}{w w1:World}(h:dw base e sz m v w)(r:iP e' w w1)(z:e≠e'):dw base e sz m v w1:=by
 obtain⟨D,n,xs,hn,ho⟩:=h;refine⟨D,n,xs,hn,fY ho fun k y=>?_⟩;obtain⟨cs,q⟩:=eR ho k y;rw [q];exact r k cs e _ q z
theorem dw.far{base e sz m g t:Nat}{v:Value}{w:World}{cs:Array Value}(h:dw base e sz m v w)(hg:w.heap[g]? =some (.cells cs t (0,0)))(y:e≠t)(i:Nat)(u:Value):dw base e sz m v (w.setCell ⟨g,i,none⟩ u):=by
 obtain⟨z,n,xs,hn,ho⟩:=h;refine⟨z,n,xs,hn,fY ho fun k r=>?_⟩;have q:=mY ho hg y;rw [r]at q;exact Below.heap_setCell w ⟨g,i,none⟩ u k (fun e=>q (by simpa using e.symm))
theorem dw.far'{base e sz m g:Nat}{v:Value}{w:World}(h:dw base e sz m v w)(q:some g≠v.ownBlock)(i:Nat)(u:Value):dw base e sz m v (w.setCell ⟨g,i,none⟩ u):=by
 obtain⟨y,n,xs,hn,ho⟩:=h;refine⟨y,n,xs,hn,fY ho fun k r=>?_⟩;rw [r]at q;exact Below.heap_setCell w ⟨g,i,none⟩ u k (fun e=>q (by simpa using e.symm))
theorem dw.ne_new{base e sz m g:Nat}{v:Value}{w:World}(h:dw base e sz m v w)(hg:w.heap.size≤g):some g≠v.ownBlock:=by
 obtain⟨r,n,xs,hn,ho⟩:=h;intro q;have:=kA ho g q.symm;omega
section
variable {ops:Array Oper} {rest:List Oper} {o:Oper} {a:Act} {Q:Exit→Act→World→Prop}
theorem ji{w0 W:World}(base:Nat)(t e sz bytes:Nat)(z:Value)(ht:Tryz.prog.underlying t=some (.slice e))(a1:(Tryz.prog.info? e).map (fun i=>(i.zero,i.size,i.bytes))=some (some z,sz,bytes))(hz:z.cells.size=sz)(hs0:0<sz)(Y:0<bytes)(Z:bytes≤1000)
 (s x:Operand)(v:Value)(ys:List Value)(m:Nat)(hm:m≤100000)(hys:ys.length=sz)(h1:∀u∈ys,u.oneCell'=true)(V:dw base e sz m v W)(U:Below base w0 W)(am:base≤W.heap.size)
 (av:o.guard=none)(ho:o.op= .call {callee:= .builtin .append,args:= #[s,x],argTypes:= #[t,t]})(hs:a.eval s=v)(hx:a.eval x= .slice (some ⟨W.heap.size,0,none⟩) 1 1)
 (h:∀q J r w1,dw base e sz (m+1) (.slice q J r) w1→Below base w0 w1→iP e W w1→wpList Tryz.prog ops Q rest (a.put o.dst (.slice q J r)) w1):wpList Tryz.prog ops Q (o::rest) a (W.alloc (.cells ys.toArray e)):=by
 obtain⟨hsl,n,xs,hn,D⟩:=V;refine eu (P:=Tryz.prog) base av s x t e z sz bytes ho ht a1 hz hs0 Y v n xs ys hs hx hys h1 D U am (rK (Nat.mul_le_mul (show n+1≤100001 by omega) Z) (by decide)) ?_;intro v1 w1 G hB hg hat;obtain⟨q,r,hv⟩:=lZ G;subst hv;refine h _ _ _ w1 ⟨⟨_,_,_,rfl⟩,_,_,by omega,G⟩ hB ?_;intro g cs t' fz y a2;refine bC y hg ?_;intro X;obtain⟨cs',ap⟩:=eR D g X.symm;rw [ap]at y;cases y;exact a2 rfl
theorem lH{w0 W:World}(base:Nat)(t e:TypeId)(z:Value)(ht:Tryz.prog.underlying t=some (.slice e))(X:(Tryz.prog.info? e).map (fun i=>(i.zero,i.size,i.bytes))=some (some z,1,8))(hz:z.cells.size=1)
 (s x:Operand)(v y:Value)(m:Nat)(Y:m≤100000)(h1:y.oneCell'=true)(J:dw base e 1 m v W)(G:Below base w0 W)(U:base≤W.heap.size)
 (V:o.guard=none)(ho:o.op= .call {callee:= .builtin .append,args:= #[s,x],argTypes:= #[t,t]})(Z:a.eval s=v)(hx:a.eval x= .slice (some ⟨W.heap.size,0,none⟩) 1 1)
 (h:∀q D r w1,dw base e 1 (m+1) (.slice q D r) w1→Below base w0 w1→iP e W w1→wpList Tryz.prog ops Q rest (a.put o.dst (.slice q D r)) w1):wpList Tryz.prog ops Q (o::rest) a (W.alloc (.cells #[y] e)):=
 ji base t e 1 8 z ht X hz (by decide) (by decide) (by decide) s x v [y] m Y rfl (by simpa using h1) J G U V ho Z hx h
end
def bU(g n i t e sz m base:Nat)(v:Value)(w:World):Prop:=(∃h:Array Value,w.heap[g]? =some (.cells h t (0,0))∧h.size=n∧h[i]? =some v)∧dw base e sz m v w
theorem bU.lt{g n i t e sz m base:Nat}{v:Value}{w:World}(h:bU g n i t e sz m base v w):g<w.heap.size:=by obtain⟨⟨_,h,_⟩,_⟩:=h;exact bH h
theorem bU.on{g n i t e sz m base:Nat}{v:Value}{w w1:World}(q:Below w.heap.size w w1)(h:bU g n i t e sz m base v w):bU g n i t e sz m base v w1:=by
 obtain⟨⟨c,y,r⟩,hp⟩:=h;exact⟨⟨c,aQ y q,r⟩,dw.on q hp⟩
theorem bU.alloc{g n i t e sz m base:Nat}{v:Value}{w:World}(h:bU g n i t e sz m base v w)(o:Obj):bU g n i t e sz m base v (w.alloc o):=bU.on (ai (rr _ _) o) h
theorem bU.keep{g n i t e sz m base e':Nat}{v:Value}{w w1:World}(h:bU g n i t e sz m base v w)(q:iP e' w w1)(z:e≠e')(D:t≠e'):bU g n i t e sz m base v w1:=by
 obtain⟨⟨c,y,r⟩,hp⟩:=h;exact⟨⟨c,q g c t _ y D,r⟩,hp.keep q z⟩
theorem bU.cellj{g n i t e sz m base:Nat}{v:Value}{w:World}(h:bU g n i t e sz m base v w)(D:e≠t)(j:Nat)(z:i≠j)(u:Value):bU g n i t e sz m base v (w.setCell ⟨g,j,none⟩ u):=by
 obtain⟨⟨c,q,r,y⟩,hp⟩:=h;exact⟨⟨_,gV q j u,by simpa using r,by rw [Array.getElem?_setIfInBounds_ne (fun e=>z e.symm)];exact y⟩,hp.far q D j u⟩
theorem bU.far{g n i t e sz m base q r:Nat}{v:Value}{w:World}{cs:Array Value}(h:bU g n i t e sz m base v w)(hg:w.heap[q]? =some (.cells cs r (0,0)))(G:e≠r)(D:g≠q)(j:Nat)(u:Value):bU g n i t e sz m base v (w.setCell ⟨q,j,none⟩ u):=by
 obtain⟨⟨c,z,y⟩,hp⟩:=h;exact⟨⟨c,az z D u,y⟩,hp.far hg G j u⟩
theorem bU.put{g n i t e sz m y base:Nat}{v v1:Value}{w w1:World}(h:bU g n i t e sz m base v w)(G:iP e w w1)(r:t≠e)(hi:i<n)(hp:dw base e sz y v1 w1):bU g n i t e sz y base v1 (w1.setCell ⟨g,i,none⟩ v1):=by
 obtain⟨⟨c,D,z,J⟩,_⟩:=h;have q:=G g c t _ D r;exact⟨⟨_,gV q i v1,by simpa using z,by rw [Array.getElem?_setIfInBounds_self,if_pos (by omega)]⟩,hp.far q (fun e=>r e.symm) i v1⟩
theorem bU.cell{g n i t e sz m base:Nat}{v:Value}{w:World}(h:bU g n i t e sz m base v w):w.cell? ⟨g,i,none⟩=some v∧w.frozen? ⟨g,i,none⟩=false:=by
 obtain⟨⟨c,q,y,r⟩,_⟩:=h;exact⟨by rw [ab q];exact r,au q i⟩
theorem bU.cellx{g n i t e sz m base:Nat}{v:Value}{w:World}(h:bU g n i t e sz m base v w)(j:Nat)(z:j<n):(∃u,w.cell? ⟨g,j,none⟩=some u)∧w.frozen? ⟨g,j,none⟩=false:=by
 obtain⟨⟨c,q,r,y⟩,_⟩:=h;exact⟨⟨c[j],by rw [ab q];exact Array.getElem?_eq_getElem (by omega)⟩,au q j⟩
theorem bU.after{g n i t e sz m base:Nat}{v:Value}{w w1:World}(h:bU g n i t e sz m base v w)(z:iP e w w1)(D:t≠e):w1.cell? ⟨g,i,none⟩=some v∧w1.frozen? ⟨g,i,none⟩=false:=by
 obtain⟨⟨c,y,G,r⟩,_⟩:=h;have q:=z g c t _ y D;exact⟨by rw [ab q];exact r,au q i⟩
theorem bU.slice{g n i t e sz m base:Nat}{v:Value}{w:World}(h:bU g n i t e sz m base v w):∃A n c,v= .slice A n c:=h.2.1
theorem bU.mono{g n i t e sz m q base:Nat}{v:Value}{w:World}(h:bU g n i t e sz m base v w)(z:m≤q):bU g n i t e sz q base v w:=by
 obtain⟨h1,r,k,xs,y,ho⟩:=h;exact⟨h1,r,k,xs,by omega,ho⟩
def esc:List UInt8→List UInt8
 |[]=>[]
 |b::l=>if b=0 then 0::255::esc l else b::esc l
def nB(l:List UInt8):List Int:=l.map fun b=>(b.toNat:Int)
theorem kD(l:List UInt8):(nB l).length=l.length:=by simp [nB]
def cS(l:List UInt8):List Int:=nB (esc l)++ [0]
theorem ja(l:List UInt8):(esc l).length≤2*l.length:=by
 induction l with
 |nil=>exact rA _
 |cons b l h=>unfold esc;split<;>simp only [List.length_cons]<;>omega
theorem nG(b:UInt8)(l:List UInt8)(h:b≠0):Lib.index (b::l) [0]=if Lib.index l [0]== -1 then-1 else Lib.index l [0]+1:=by
 have:([0]:List UInt8).isPrefixOf (b::l)=false:=by simp [List.isPrefixOf,Ne.symm h]
 rw [Lib.index,this];rfl
theorem nF(l:List UInt8):Lib.index (0::l) [0]=0:=by
 have:([0]:List UInt8).isPrefixOf (0::l)=true:=by simp [List.isPrefixOf]
 rw [Lib.index,this];rfl
theorem oE(b:UInt8)(r:List UInt8)(l:List UInt8)(h:b≠0)(k:Nat):Lib.replaceK [0] r k (b::l)=b::Lib.replaceK [0] r k l:=by
 cases k with
 |zero=>rfl
 |succ k=>
  rw [Lib.replaceK,Lib.replaceK,nG b l h];have z:=Lib.index_ge l [0];by_cases q:(Lib.index l [0]== -1)=true;·rw [rp q,rp q,rp (by decide)]
  ·rw [rq q,rq q]
   have D:Lib.index l [0]≠ -1:=fun e=>q (by rw [e];rfl)
   have h1:¬(Lib.index l [0]+1== -1)=true:=fun e=>by have:=rI.1 e;omega
   rw [rq h1];have y:(Lib.index l [0]+1).toNat=(Lib.index l [0]).toNat+1:=(by omega);rw [y];simp
theorem pv(l:List UInt8):Lib.replaceK [0] [0,255] (l.count 0) l=esc l:=by
 induction l with
 |nil=>rfl
 |cons b l q=>
  by_cases h:b=0
  ·subst h
   rw [List.count_cons_self,Lib.replaceK,nF];unfold esc;simp [q]
  ·rw [List.count_cons_of_ne (by exact h),oE b _ l h,q]
   conv=>rhs;unfold esc
   rw [rq h]
theorem o6(l:List UInt8):Lib.replaceAll l [0] [0,255]=esc l:=by
 unfold Lib.replaceAll Lib.replace;rw [rq (by decide)];have:Lib.replaceNum l [0] (-1)=l.count 0:=by unfold Lib.replaceNum;rw [rp (Or.inl (by decide)),Lib.count_one]
 rw [this,pv]
theorem fX(l0:List Int)(s:ByteArray)(U:s.size≤65536)(J:l0.length<140737488000000):b9.f l0 s=some (l0++cS s.data.toList):=by
 have h1:ch.f s ⟨#[0]⟩ ⟨#[0,255]⟩=some ⟨(esc s.data.toList).toArray⟩:=by
  unfold ch.f;have G:Lib.countB s ⟨#[0]⟩≤s.size+1:=by
   have:=Lib.count_le s.data.toList [0];rw [show s.data.toList.length=s.size from cG s]at this;exact this
  have h:(⟨#[0,255]⟩:ByteArray).size=2:=rfl;have z:(⟨#[0]⟩:ByteArray).size=1:=rfl;rw [rp ⟨by omega,by omega,by rw [h];omega⟩];rw [show(⟨#[0]⟩:ByteArray).data.toList= [0]from rfl,show(⟨#[0,255]⟩:ByteArray).data.toList= [0,255]from rfl,o6]
 have y:(⟨(esc s.data.toList).toArray⟩:ByteArray).size≤131072:=by
  have:=ja s.data.toList;have q:(⟨(esc s.data.toList).toArray⟩:ByteArray).size=(esc s.data.toList).length:=by show(esc s.data.toList).toArray.size=_;simp
  rw [q];rw [show s.data.toList.length=s.size from cG s]at this;omega
 have r:br ⟨(esc s.data.toList).toArray⟩=nB (esc s.data.toList):=rfl;have D:(br ⟨(esc s.data.toList).toArray⟩).length≤131072:=by rw [bS];exact y
 unfold b9.f;rw [h1,rG,rp (by omega),rG,rp (by rw [rO];omega),r,rZ];rfl
theorem kS(s:ByteArray)(i:Nat)(h:i<s.size):bt s i=(s[i].toNat:Int):=by
 unfold bt;rw [dif_pos (by simpa using h)];rfl
theorem lA(s:ByteArray)(i:Nat)(h:i<s.size):s.data.toList.drop i=s[i]::s.data.toList.drop (i+1):=by
 rw [sn (by rw [cG];exact h)];rfl
theorem nL(s:ByteArray)(D:s.size≤65536):∀(d i k:Nat) (h:List Int),i+d=s.size→d<k→h.length≤2*i→aW.l0 k s h i=some (h++cS (s.data.toList.drop i)):=by
 intro d
 induction d with
 |zero=>
  intro i k h hi y z;obtain⟨k,rfl⟩:∃m,k=m+1:=⟨k-1,by omega⟩;unfold aW.l0;rw [rq (by omega),rp (by omega),rS (by rw [cG];omega)];rfl
 |succ d r=>
  intro i k h hi y z;obtain⟨k,rfl⟩:∃m,k=m+1:=⟨k-1,by omega⟩;unfold aW.l0;rw [rp (by omega),rp (by omega),rp (by omega),rG,w1 i (by omega),kS s i (by omega),lA s i (by omega)];by_cases q:s[i]=0
  ·rw [rp (by rw [q];rfl),rp (by rw [rO];simp;try omega),r (i+1) k _ (by omega) (by omega) (by simp only [List.length_append,List.length_singleton];omega),q]
   unfold cS;conv=>rhs;unfold esc
   rw [rp rfl];simp [nB]
  ·rw [rq (fun e=>q (by apply sx.1;have:s[i].toNat=0:=by omega
                        rw [this];rfl)),r (i+1) k _ (by omega) (by omega) (by simp only [List.length_append,List.length_singleton];omega)]
   unfold cS;conv=>rhs;unfold esc
   rw [rq q];simp [nB]
def fK(b:Nat):Nat:=if b<9223372036854775808 then b+9223372036854775808 else 18446744073709551615-b
def fC(b:Nat):Nat:=fN (ev b)
theorem kB(x y:Nat)(h:(FloatKind.f64.format.order x y==some .eq)=true):(FloatKind.f64.format.order x x==some .eq)=true:=by
 unfold Ieee.Format.order at h⊢;cases q:FloatKind.f64.format.read x with
 |nan s t=>rw [q]at h;simp [Ieee.Datum.order]at h
 |infinity s=>simp [Ieee.Datum.order]
 |number s m e=>simp [Ieee.Datum.order]
theorem pe(b:Nat)(h:b<18446744073709551616):fC b<18446744073709551616:=by
 unfold fC fN ev;split<;>split<;>omega
theorem mZ(b:Nat)(h:b<9223372036854775808):9223372036854775808|||b=9223372036854775808^^^b:=by
 apply Nat.eq_of_testBit_eq;intro i;rw [Nat.testBit_or,Nat.testBit_xor];by_cases hi:i=63
 ·subst hi
  rw [Nat.testBit_lt_two_pow (x:=b) (by simpa using h)];simp
 ·rw [show(9223372036854775808:Nat)=2^63 from rfl,Nat.testBit_two_pow_of_ne (fun e=>hi e.symm)]
  simp
theorem mH(b:Nat)(h:b<9223372036854775808):Go.bits .xor .u64 (b:Int) 9223372036854775808=((b+9223372036854775808:Nat):Int):=by
 rw [show(9223372036854775808:Int)=((9223372036854775808:Nat):Int)from rfl,u64_xor b _ (by omega) (by decide)];have:b^^^9223372036854775808=b+9223372036854775808:=by
  rw [Nat.xor_comm,Nat.add_comm];rw [Nat.add_comm,←mZ b h];exact(Nat.two_pow_add_eq_or_of_lt (i:=63) (b:=b) (by simpa using h) 1).symm.trans (Nat.add_comm _ _)
 rw [this]
theorem qU(b:Nat)(h:b<9223372036854775808):Go.bits .or .u64 (b:Int) 9223372036854775808=((b+9223372036854775808:Nat):Int):=by
 rw [show(9223372036854775808:Int)=((9223372036854775808:Nat):Int)from rfl,u64_or b _ (by omega) (by decide)];have:b|||9223372036854775808=b+9223372036854775808:=by
  rw [Nat.or_comm,Nat.add_comm];exact(Nat.two_pow_add_eq_or_of_lt (i:=63) (b:=b) (by simpa using h) 1).symm
 rw [this]
theorem jH(k:Nat)(y:10≤k)(l0:List Int)(b:Nat)(h:b<18446744073709551616)(z:l0.length<140737488000000):cx.f k l0 b=some (l0++hB 8 (fK b)):=by
 unfold cx.f bG.f fK;have r:wrap64 (8-1)=((8:Nat):Int)-1:=by unfold wrap64;omega
 rw [r];by_cases q:b<9223372036854775808
 ·rw [rp (by omega),rp q,qU b q,gS _ 8 k l0 (by omega) (by omega) (by omega)]
  rfl
 ·rw [rq (by omega),rq q,fZ b h,gS _ 8 k l0 (by omega) (by omega) (by omega)]
  rfl
theorem hX(k:Nat)(y:11≤k)(b:Nat)(h:b<18446744073709551616):aU.j1 k b=some (hB 8 (fK b)):=by
 obtain⟨k,rfl⟩:∃m,k=m+1:=⟨k-1,by omega⟩;rw [aU.j1];unfold aK.f fK;have r:wrap64 (8-1)=((8:Nat):Int)-1:=by unfold wrap64;omega
 rw [r];by_cases q:b<9223372036854775808
 ·rw [rp (by omega),rp q,mH b q,iv _ 8 k [] (by omega) (by omega) (by simp)]
  rfl
 ·rw [rq (by omega),rq q,fZ b h,iv _ 8 k [] (by omega) (by omega) (by simp)]
  rfl
theorem oF(k:Nat)(y:13≤k)(b:Nat)(h:b<18446744073709551616):aU.f k b=some (hB 8 (fK (fC b))):=by
 obtain⟨k,rfl⟩:∃m,k=m+1:=⟨k-1,by omega⟩;have hn:(9221120237041090560:Int)=((9221120237041090560:Nat):Int):=rfl;unfold aU.f fC ev;by_cases q:(FloatKind.f64.format.order b 0==some .eq)=true
 ·rw [rp q,rp q]
  have r:=kB b 0 q;rw [aU.j0,rq (by simp only [bne,r];decide)];have:=hX k (by omega) 0 (by omega);have hp:fN 0=0:=by decide+kernel
  rw [hp];exact this
 ·rw [rq q,rq q]
  rw [aU.j0];unfold fN;by_cases h1:(FloatKind.f64.format.order b b !=some .eq)=true
  ·rw [rp h1,rp h1,hn]
   exact hX k (by omega) _ (by omega)
  ·rw [rq h1,rq h1]
   exact hX k (by omega) _ h
def cT(v:S84):List Int:=if v.f0=1 then [v.f1]else if v.f0=2 then cI v.f1 else if v.f0=3 then hB 8 (fK (fC v.f2))else if v.f0=4∨v.f0=5 then cS v.f3.data.toList else []
def cV(v:S84):List Int:=(v.f0+1)::cT v
structure VOk (v:S84):Prop where
 chk:aX v=0
 lo: -9223372036854775808≤v.f1
 hi:v.f1≤9223372036854775807
 fl:v.f2<18446744073709551616
theorem VOk.bad{v:S84}(h:VOk v):¬bw v∧v.f3.size≤65536:=by
 have:=h.chk;unfold aX at this;split at this;·omega
 ·refine⟨‹_›,?_⟩
  split at this<;>omega
theorem VOk.kind{v:S84}(h:VOk v):0≤v.f0∧v.f0≤5:=by
 have:=h.bad.1;unfold bw at this;omega
theorem VOk.bool{v:S84}(h:VOk v)(h1:v.f0=1):v.f1=0∨v.f1=1:=by
 have:=h.bad.1;unfold bw at this;omega
theorem jX(k:Nat)(Y:13≤k)(l0:List Int)(v:S84)(h:VOk v)(hl:l0.length<140737400000000):cZ.f k l0 v.f0 v.f1 v.f2 v.f3=some (l0++cV v):=by
 have Z:=h.kind;have D:=h.bad.2;have U:=h.lo;have J:=h.hi;unfold cZ.f cV cT;by_cases h1:v.f0=1
 ·have X:=h.bool h1
  rw [rp h1,rp h1,rG,rp (by simp;omega),h1];have:v.f1%256=v.f1:=by omega
  rw [this];rfl
 rw [rq h1,rq h1];by_cases r:v.f0=2;·rw [rp r,rp r,rp (by omega),lY k (by omega) _ _ U J (by simp only [List.length_append,List.length_singleton];omega),rG,r,rZ];rfl
 rw [rq r,rq r];by_cases q:v.f0=3
 ·rw [rp q,rp q,rp (by omega)]
  have V:bQ.f v.f0 v.f1 v.f2 v.f3=some (v.f0,v.f1,fC v.f2,v.f3):=by unfold bQ.f;rw [rp q];rfl
  rw [V,rG];show((cx.f k (l0++ [4]) (fC v.f2)).bind fun t121=>some t121)=_;rw [jH k (by omega) _ _ (pe _ h.fl) (by simp only [List.length_append,List.length_singleton];omega),rG,q,rZ];rfl
 rw [rq q,rq q];by_cases y:v.f0=4;·rw [rp y,rp (Or.inl y),rp (by omega),fX _ _ D (by simp only [List.length_append,List.length_singleton];omega),rG,y,rZ];rfl
 rw [rq y];by_cases z:v.f0=5;·rw [rp z,rp (Or.inr z),rp (by omega),fX _ _ D (by simp only [List.length_append,List.length_singleton];omega),rG,z,rZ];rfl
 have G:¬(v.f0=4∨v.f0=5):=by omega
 rw [rq z,rq G,rp (by omega),show v.f0=0 from by omega];rfl
theorem nT(n:Int)(h: -9223372036854775808≤n)(h1:n≤9223372036854775807):(cI n).length≤9:=by
 unfold cI;split
 ·have:=eo 8 n.toNat (by omega)
  simp only [List.length_cons,ez];omega
 ·have:=eo 8 (-(n+1)).toNat (by omega)
  simp only [List.length_cons,ez];omega
theorem nS{v:S84}(h:VOk v):(cV v).length≤131074:=by
 have r:=h.bad.2;unfold cV cT;have hi:=nT v.f1 h.lo h.hi;have q:=ja v.f3.data.toList;rw [cG]at q;split;·simp
 split;·simp only [List.length_cons];omega
 split;·simp only [List.length_cons,ez];omega
 split;·simp only [List.length_cons,cS,List.length_append,kD,List.length_nil];omega
 ·simp
theorem jD(k:Nat)(hk:65538≤k)(v:S84)(h:VOk v):bF.f k v.f0 v.f1 v.f2 v.f3=some (cV v):=by
 have hkd:=h.kind;have V:=h.bad.2;unfold bF.f cV cT;have U:(wrap64 (v.f0+1))%256=v.f0+1:=by unfold wrap64;omega
 have D:aW.f k v.f3=some (cS v.f3.data.toList):=by
  have:=nL v.f3 V v.f3.size 0 k [] (by omega) (by omega) (by simp);rw [List.drop_zero]at this;exact this
 have Y:=nS h;rw [U,rG];by_cases h1:v.f0=1
 ·have X:=h.bool h1
  rw [rp h1,rp h1,rp (by simp)];have:v.f1%256=v.f1:=by omega
  rw [this];rfl
 rw [rq h1,rq h1];by_cases q:v.f0=2
 ·have:=nT v.f1 h.lo h.hi
  rw [rp q,rp q,mJ k (by omega) _ h.lo h.hi,rG,rp (by simp only [List.length_singleton];omega)];rfl
 rw [rq q,rq q];by_cases r:v.f0=3;·rw [rp r,rp r,oF k (by omega) _ h.fl,rG,rp (by simp only [List.length_singleton,ez];omega)];rfl
 rw [rq r,rq r];have J:=ja v.f3.data.toList;rw [cG]at J;have Z:(cS v.f3.data.toList).length≤131073:=by simp only [cS,List.length_append,kD,List.length_singleton];omega
 by_cases y:v.f0=4;·rw [rp y,rp (Or.inl y),D,rG,rp (by simp only [List.length_singleton];omega)];rfl
 rw [rq y];by_cases z:v.f0=5;·rw [rp z,rp (Or.inr z),D,rG,rp (by simp only [List.length_singleton];omega)];rfl
 have G:¬(v.f0=4∨v.f0=5):=by omega
 rw [rq z,rq G]
structure RV (v:S84):Prop where
 lo: -9223372036854775808≤v.f1
 hi:v.f1≤9223372036854775807
 fl:v.f2<18446744073709551616
 sz:v.f3.size≤9223372036854775807
theorem RV.ok{v:S84}(h:RV v)(q:aX v=0):VOk v:=⟨q,h.lo,h.hi,h.fl⟩
theorem lg(l:List S84)(i:Nat)(h:i<l.length):af l i=l[i]:=by unfold af;simp [List.getD_eq_getElem?_getD,h]
theorem gp(l:List S84)(i:Nat)(h:i<l.length):l.drop i=af l i::l.drop (i+1):=by rw [lg l i h];exact sn h
theorem f_(l:List S84)(i:Nat)(h:i<l.length):af l i∈l:=by rw [lg l i h];exact rL h
def gK(x:List Int):List S84→ByteArray×Int
 |[]=>(strOfNums x,0)
 |v::l=>if 1024<(x++cV v).length then(⟨#[]⟩,3)else gK (x++cV v) l
def gM(v:S84):Bool:=aX v !=0
def eD(l:List S84):ByteArray×Int:=if l.any gM=true then(⟨#[]⟩,10)else gK [] l
theorem o0(l:List S84)(z:l.length<9223372036854775807)(hr:∀v∈l,VOk v):∀(d i k:Nat) (x:List Int),i+d=l.length→d+13<k→x.length≤1024→bA.l1 k x l l.length i=some (gK x (l.drop i)):=by
 intro d
 induction d with
 |zero=>
  intro i k x hi q r;obtain⟨k,rfl⟩:∃m,k=m+1:=⟨k-1,by omega⟩;rw [bA.l1,rq (by omega),rS (by omega)];rfl
 |succ d y=>
  intro i k x hi q r;obtain⟨k,rfl⟩:∃m,k=m+1:=⟨k-1,by omega⟩;rw [bA.l1,rp (by omega),rp (by omega),rp (by omega),jX k (by omega) x _ (hr _ (f_ l i (by omega))) (by omega),rG,gp l i (by omega),gK,w1 i (by omega)];by_cases h:1024<(x++cV (af l i)).length;·rw [rp (by omega),rp h]
  ·rw [rq (by omega),rq h,y (i+1) k _ (by omega) (by omega) (by omega)]
theorem fO{l:List S84}(hr:∀v∈l,RV v)(h:l.any gM=false):∀v∈l,VOk v:=by
 intro v q;refine(hr v q).ok ?_;have:=List.any_eq_false.1 h v q;simpa [gM]using this
theorem o1(l:List S84)(z:l.length<9223372036854775807)(hr:∀v∈l,RV v):∀(d i k:Nat),i+d=l.length→d+l.length+15<k→(l.take i).any gM=false→bA.l0 k l l l.length i=some (eD l):=by
 intro d
 induction d with
 |zero=>
  intro i k hi y h;obtain⟨k,rfl⟩:∃m,k=m+1:=⟨k-1,by omega⟩;rw [rY (by omega)]at h;have:=o0 l z (fO hr h) l.length 0 k [] (by omega) (by omega) (by simp);rw [bA.l0,if_neg (by omega)];unfold eD;rw [rq (by rw [h];decide)];exact this
 |succ d G=>
  intro i k hi y h;obtain⟨k,rfl⟩:∃m,k=m+1:=⟨k-1,by omega⟩;have D:=hr _ (f_ l i (by omega));have r:bR.f (af l i).f0 (af l i).f1 (af l i).f2 (af l i).f3=some (aX (af l i)):=by unfold bR.f;rw [rp D.sz]
  rw [bA.l0,rp (by omega),rp (by omega),rp (by omega),r,rG,w1 i (by omega)];by_cases q:aX (af l i)=0
  ·rw [rp q]
   refine G (i+1) k (by omega) (by omega) ?_;rw [rM (by omega),se,h,←lg l i (by omega)];simp [gM,q]
  ·rw [rq q]
   unfold eD;rw [rp];exact sb.2 ⟨_,f_ l i (by omega),by simp [gM,q]⟩
theorem iu(l:List S84)(h:l.length<9223372036854775807)(hr:∀v∈l,RV v)(k:Nat)(q:2*l.length+15<k):bA.f k l=some (eD l):=
 o1 l h hr l.length 0 k (by omega) (by omega) rfl
theorem mV(l:List S84)(G:l.length<9223372036854775807)(hr:∀v∈l,VOk v):∀(d i k:Nat) (x:List Int),i+d=l.length→d+65538<k→x.length≤1024→aC.l1 k l x i=some (gK x (l.drop i)):=by
 intro d
 induction d with
 |zero=>
  intro i k x hi r y;obtain⟨k,rfl⟩:∃m,k=m+1:=⟨k-1,by omega⟩;rw [aC.l1,rq (by omega),rS (by omega)];rfl
 |succ d z=>
  intro i k x hi r y;obtain⟨k,rfl⟩:∃m,k=m+1:=⟨k-1,by omega⟩;have q:=hr _ (f_ l i (by omega));have D:=nS q;rw [aC.l1,rp (by omega),rp (by omega),jD k (by omega) _ q,rG,rp (by omega),rG,gp l i (by omega),gK,w1 i (by omega)];by_cases h:1024<(x++cV (af l i)).length;·rw [rp (by omega),rp h]
  ·rw [rq (by omega),rq h,z (i+1) k _ (by omega) (by omega) (by omega)]
theorem mW(l:List S84)(z:l.length<9223372036854775807)(hr:∀v∈l,RV v):∀(d i k:Nat),i+d=l.length→d+l.length+65540<k→(l.take i).any gM=false→aC.l0 k l i=some (eD l):=by
 intro d
 induction d with
 |zero=>
  intro i k hi y h;obtain⟨k,rfl⟩:∃m,k=m+1:=⟨k-1,by omega⟩;rw [rY (by omega)]at h;have:=mV l z (fO hr h) l.length 0 k [] (by omega) (by omega) (by simp);rw [aC.l0,if_neg (by omega)];unfold eD;rw [rq (by rw [h];decide)];exact this
 |succ d G=>
  intro i k hi y h;obtain⟨k,rfl⟩:∃m,k=m+1:=⟨k-1,by omega⟩;have D:=hr _ (f_ l i (by omega));have r:cp.f (af l i).f0 (af l i).f1 (af l i).f2 (af l i).f3=some (aX (af l i)):=by unfold cp.f;rw [rp D.sz]
  rw [aC.l0,rp (by omega),rp (by omega),r,rG,w1 i (by omega)];by_cases q:aX (af l i)=0
  ·rw [rp q]
   refine G (i+1) k (by omega) (by omega) ?_;rw [rM (by omega),se,h,←lg l i (by omega)];simp [gM,q]
  ·rw [rq q]
   unfold eD;rw [rp];exact sb.2 ⟨_,f_ l i (by omega),by simp [gM,q]⟩
theorem fD(l:List S84)(h:l.length<9223372036854775807)(hr:∀v∈l,RV v)(k:Nat)(q:2*l.length+65540<k):aC.f k l=some (eD l):=
 mW l h hr l.length 0 k (by omega) (by omega) rfl
theorem lz:∀(l:List S84) (x:List Int) (s:ByteArray),gK x l=(s,0)→s=strOfNums (x++l.flatMap cV)∧(x.length≤1024→s.size≤1024):=by
 intro l
 induction l with
 |nil=>intro x s h;simp only [gK,Prod.mk.injEq]at h;rw [←h.1];refine⟨by simp,fun q=>?_⟩;rw [strOfNums_size];exact q
 |cons v l r=>
  intro x s h;rw [gK]at h;split at h;·simp at h
  ·have:=r _ s h
   refine⟨by rw [this.1];simp,fun _=>this.2 (by omega)⟩
theorem nN:∀(l:List S84) (x:List Int),(x++l.flatMap cV).length≤1024→gK x l=(strOfNums (x++l.flatMap cV),0):=by
 intro l
 induction l with
 |nil=>intro x h;simp [gK]
 |cons v l q=>
  intro x h;rw [gK,rq (by simp only [List.flatMap_cons,List.length_append]at h⊢;omega),q _ (by simpa using h)];simp
theorem dW{α:Type}(l:List α)(z:α)(i:Nat)(h:i<l.length):l.take i++ [l.getD i z]=l.take (i+1):=by
 rw [rM h];simp [List.getD_eq_getElem?_getD,h]
theorem mi(l:List Int)(r:l.length≤17592186044416):∀(d i k:Nat),i+d=l.length→d<k→bd.l0 k l (l.take i) i=some l:=by
 intro d
 induction d with
 |zero=>
  intro i k hi h;obtain⟨k,rfl⟩:∃m,k=m+1:=⟨k-1,by omega⟩;unfold bd.l0;rw [rq (by omega),rY (by omega)]
 |succ d q=>
  intro i k hi h;obtain⟨k,rfl⟩:∃m,k=m+1:=⟨k-1,by omega⟩;unfold bd.l0;rw [rp (by omega),rp (by omega),rp (by rw [r8];omega),w1 i (by omega)];have:l.take i++ [rd l (i:Int)]=l.take (i+1):=dW l 0 i (by omega);rw [this,q (i+1) k (by omega) (by omega)]
theorem im(l:List Int)(q:l.length≤17592186044416)(k:Nat)(h:l.length<k):bd.f k l=some l:=mi l q l.length 0 k (by omega) h
theorem mU(l:List S84)(r:l.length≤3518437208883):∀(d i k:Nat),i+d=l.length→d<k→bL.l0 k l (l.take i) i=some l:=by
 intro d
 induction d with
 |zero=>
  intro i k hi h;obtain⟨k,rfl⟩:∃m,k=m+1:=⟨k-1,by omega⟩;unfold bL.l0;rw [rq (by omega),rY (by omega)]
 |succ d q=>
  intro i k hi h;obtain⟨k,rfl⟩:∃m,k=m+1:=⟨k-1,by omega⟩;unfold bL.l0;rw [rp (by omega),rp (by omega),rp (by rw [r8];omega),w1 i (by omega)];have:l.take i++ [af l (i:Int)]=l.take (i+1):=dW l z84 i (by omega);rw [this,q (i+1) k (by omega) (by omega)]
theorem oD(l:List S84)(q:l.length≤3518437208883)(k:Nat)(h:l.length<k):bL.f k l=some l:=mU l q l.length 0 k (by omega) h
theorem mj(st:Int)(l:List S52)(C:Nat)(D:l.length≤2513169434916)(h:∀x∈l,x.f3.length≤3518437208883∧x.f3.length<C):∀(d i k:Nat),i+d=l.length→d+C<k→bJ.l0 k i st l st (l.take i)=some (st,l):=by
 intro d
 induction d with
 |zero=>
  intro i k hi r;obtain⟨k,rfl⟩:∃m,k=m+1:=⟨k-1,by omega⟩;unfold bJ.l0;rw [rq (by omega),rY (by omega)]
 |succ d z=>
  intro i k hi r;obtain⟨k,rfl⟩:∃m,k=m+1:=⟨k-1,by omega⟩;have q:ah l (i:Int)=l[i]'(by omega):=by unfold ah;simp [List.getD_eq_getElem?_getD,show i<l.length from by omega]
  have y:=h (ah l (i:Int)) (by rw [q];exact rL _);unfold bJ.l0;rw [rp (by omega),rp (by omega),oD _ y.1 k (by omega),rG,rp (by rw [r8];omega),w1 i (by omega)];have:l.take i++ [ah l (i:Int)]=l.take (i+1):=dW l z52 i (by omega);rw [this,z (i+1) k (by omega) (by omega)]
structure kX (C:Nat) (t:S48):Prop where
 z1:t.f1.length≤1954687338268
 z2:t.f2.length≤17592186044416
 z3:t.f3.length≤2932031007402
 z4:t.f4.length≤3518437208883
 z5:∀x∈t.f3,x.f1.length≤17592186044416∧x.f1.length<C
 z6:∀x∈t.f4,x.f0.length≤17592186044416∧x.f0.length<C
 zc:t.f2.length<C
 zs:t.f1.length+t.f3.length+t.f4.length≤C
section
variable {t:S48} {C:Nat}
theorem oq(h:kX C t):∀(d i k:Nat),i+d=t.f4.length→d+C<k→aA.l2 k i t.f0 t.f1 t.f2 t.f3 t.f4 t.f0 t.f1 t.f2 t.f3 (t.f4.take i)=some (t.f0,t.f1,t.f2,t.f3,t.f4):=by
 have D:=h.z4;intro d
 induction d with
 |zero=>
  intro i k hi r;obtain⟨k,rfl⟩:∃m,k=m+1:=⟨k-1,by omega⟩;rw [aA.l2,rq (by omega),rY (by omega)]
 |succ d z=>
  intro i k hi r;obtain⟨k,rfl⟩:∃m,k=m+1:=⟨k-1,by omega⟩;have q:c_ t.f4 (i:Int)=t.f4[i]'(by omega):=by unfold c_;simp [List.getD_eq_getElem?_getD,show i<t.f4.length from by omega]
  have y:=h.z6 (c_ t.f4 (i:Int)) (by rw [q];exact rL _);rw [aA.l2,rp (by omega),rp (by omega),im _ y.1 k (by omega),rG,rp (by rw [r8];omega),w1 i (by omega)];have:t.f4.take i++ [c_ t.f4 (i:Int)]=t.f4.take (i+1):=dW t.f4 z90 i (by omega);rw [this,z (i+1) k (by omega) (by omega)]
theorem ot(h:kX C t):∀(d i k:Nat),i+d=t.f3.length→d+t.f4.length+C+1<k→aA.l1 k i t.f0 t.f1 t.f2 t.f3 t.f4 t.f0 t.f1 t.f2 (t.f3.take i)=some (t.f0,t.f1,t.f2,t.f3,t.f4):=by
 have D:=h.z3;intro d
 induction d with
 |zero=>
  intro i k hi r;obtain⟨k,rfl⟩:∃m,k=m+1:=⟨k-1,by omega⟩;rw [aA.l1,rq (by omega),rY (by omega)];exact oq h t.f4.length 0 k (by omega) (by omega)
 |succ d z=>
  intro i k hi r;obtain⟨k,rfl⟩:∃m,k=m+1:=⟨k-1,by omega⟩;have q:cb t.f3 (i:Int)=t.f3[i]'(by omega):=by unfold cb;simp [List.getD_eq_getElem?_getD,show i<t.f3.length from by omega]
  have y:=h.z5 (cb t.f3 (i:Int)) (by rw [q];exact rL _);rw [aA.l1,rp (by omega),rp (by omega),im _ y.1 k (by omega),rG,rp (by rw [r8];omega),w1 i (by omega)];have:t.f3.take i++ [cb t.f3 (i:Int)]=t.f3.take (i+1):=dW t.f3 z88 i (by omega);rw [this,z (i+1) k (by omega) (by omega)]
theorem ou(h:kX C t):∀(d i k:Nat),i+d=t.f1.length→d+t.f3.length+t.f4.length+C+2<k→aA.l0 k i t.f0 t.f1 t.f2 t.f3 t.f4 t.f0 (t.f1.take i) t.f2=some (t.f0,t.f1,t.f2,t.f3,t.f4):=by
 have y:=h.z1;intro d
 induction d with
 |zero=>
  intro i k hi q;obtain⟨k,rfl⟩:∃m,k=m+1:=⟨k-1,by omega⟩;rw [aA.l0,rq (by omega),rY (by omega)];exact ot h t.f3.length 0 k (by omega) (by omega)
 |succ d r=>
  intro i k hi q;obtain⟨k,rfl⟩:∃m,k=m+1:=⟨k-1,by omega⟩;rw [aA.l0,rp (by omega),rp (by omega),rp (by rw [r8];omega),w1 i (by omega)];have:t.f1.take i++ [bx t.f1 (i:Int)]=t.f1.take (i+1):=dW t.f1 z86 i (by omega);rw [this,r (i+1) k (by omega) (by omega)]
theorem qd(h:kX C t)(k:Nat)(r:2*C+2<k):aA.f k t.f0 t.f1 t.f2 t.f3 t.f4=some (t.f0,t.f1,t.f2,t.f3,t.f4):=by
 have y:=h.zs;have q:=h.zc;unfold aA.f;rw [im _ h.z2 k (by omega),rG];exact ou h t.f1.length 0 k (by omega) (by omega)
end
theorem om(l:List S48)(C:Nat)(D:l.length≤1256584717458)(y:∀t∈l,kX C t):∀(d i k:Nat),i+d=l.length→d+2*C+3<k→bp.l0 k l (l.take i) i=some l:=by
 intro d
 induction d with
 |zero=>
  intro i k hi q;obtain⟨k,rfl⟩:∃m,k=m+1:=⟨k-1,by omega⟩;unfold bp.l0;rw [rq (by omega),rY (by omega)]
 |succ d z=>
  intro i k hi q;obtain⟨k,rfl⟩:∃m,k=m+1:=⟨k-1,by omega⟩;have h:ax l (i:Int)=l[i]'(by omega):=by unfold ax;simp [List.getD_eq_getElem?_getD,show i<l.length from by omega]
  have r:=y (ax l (i:Int)) (by rw [h];exact rL _);unfold bp.l0;rw [rp (by omega),rp (by omega),qd r k (by omega),rG,rp (by rw [r8];omega),w1 i (by omega)];have:l.take i++ [ax l (i:Int)]=l.take (i+1):=dW l z48 i (by omega);show bp.l0 k l (l.take i++ [ax l (i:Int)]) _=_;rw [this,z (i+1) k (by omega) (by omega)]
def toB(l:List Int):List UInt8:=l.map fun n=>UInt8.ofNat n.toNat
def vbL(n:Int):List UInt8:=toB (vL n.toNat)
theorem gO(n:Int)(h:n.toNat<18446744073709551616):(vbL n).length≤10:=by unfold vbL toB;rw [ss];exact eN _ h
theorem qk(k n:Nat)(h:10≤k):ca.f k n 4=some ⟨(toB (lB 4 n)).toArray⟩:=by
 have:=pB 4 n (by omega) 4 0 k [] (by omega) (by omega) (by simp);rw [Nat.pow_zero,Nat.div_one]at this;exact this
theorem lr(k n:Nat)(h:10≤k)(hn:n<4294967296):bc.f k n 4=some ⟨(toB (lB 4 n)).toArray⟩:=by
 have:=l_ 4 (by omega) 4 n 0 k [] (by omega) (by omega) (by omega) (by simp);exact this
theorem k8(l:List Int):(toB l).length=l.length:=by unfold toB;rw [ss]
theorem il(k:Nat)(h:10≤k)(s:ByteArray)(z:s.size≤140737488355328):cA.f k s=some ⟨(vbL (s.size:Int)++s.data.toList).toArray⟩:=by
 have q:=jv k s.size h (by omega);have y:=eN s.size (by omega);have r:IntKind.u64.wrap ((s.size:Nat):Int)=(s.size:Int):=by rw [bP];omega
 unfold cA.f;rw [r,q,rG,rp (by rw [strOfNums_size];omega)];congr 1
theorem qB(i:Nat)(S:ByteArray):∀(d j k x:Nat),j+d=8→x<4294967296→d<k→bb.l1 k S (x:Int) (i:Int) (j:Int)=bb.l0 (k-d-1) S (Crc.stN d x:Nat) (wrap64 ((i:Int)+1)):=by
 intro d
 induction d with
 |zero=>
  intro j k x r D y;obtain⟨k,rfl⟩:∃m,k=m+1:=⟨k-1,by omega⟩;rw [bb.l1,rq (by omega)];rfl
 |succ d q=>
  intro j k x r D y;obtain⟨k,rfl⟩:∃m,k=m+1:=⟨k-1,by omega⟩;rw [bb.l1,rp (by omega),w1 j (by omega),su (by omega),sf (by omega)];have hd:((x:Int)/2)%4294967296=((x/2:Nat):Int):=by omega
  rw [hd];have z:Crc.stN (d+1) x=Crc.stN d (Crc.st x):=rfl;have G:=Crc.qe x (by omega);rw [z,show k+1-(d+1)-1=k-d-1 from by omega];by_cases h1:x%2=1
  ·have h:Crc.st x=x/2^^^2197175160:=by unfold Crc.st;rw [rp h1];rfl
   rw [rp (by omega),show(2197175160:Int)=((2197175160:Nat):Int)from rfl,u32_xor _ _ (by omega) (by decide),←h];exact q (j+1) k _ (by omega) (by omega) (by omega)
  ·have h:Crc.st x=x/2:=by unfold Crc.st;rw [rq h1]
   rw [rq (by omega),←h];exact q (j+1) k _ (by omega) (by omega) (by omega)
theorem ow(S:ByteArray)(G:S.size≤9223372036854775806):∀(d i k x:Nat),i+d=S.size→x<4294967296→10*d<k→bb.l0 k S (x:Int) (i:Int)=some (((Crc.go (S.data.toList.drop i) x^^^4294967295:Nat):Nat):Int):=by
 intro d
 induction d with
 |zero=>
  intro i k x hi y q;obtain⟨k,rfl⟩:∃m,k=m+1:=⟨k-1,by omega⟩;rw [bb.l0,rq (by omega),rS (by rw [cG];omega),show(4294967295:Int)=((4294967295:Nat):Int)from rfl,u32_xor _ _ (by omega) (by decide)];rfl
 |succ d D=>
  intro i k x hi y q;obtain⟨k,rfl⟩:∃m,k=m+1:=⟨k-1,by omega⟩;have J:=S[i].toNat_lt;have r:((S[i].toNat:Nat):Int)%4294967296=((S[i].toNat:Nat):Int):=by omega
  have z:x^^^S[i].toNat<4294967296:=sg (n:=32) (by omega) (by omega);have h:((0:Nat):Int)=0:=rfl;rw [bb.l0,rp (by omega),rp (by omega),kS S i (by omega),r,u32_xor _ _ (by omega) (by omega),←h,qB i S 8 0 k _ (by omega) z (by omega),w1 i (by omega),D (i+1) _ _ (by omega) (Crc.pq 8 _ (by omega)) (by omega),lA S i (by omega)];rfl
theorem kp(k:Nat)(x:List UInt8)(q:x.length≤67108868)(h:671088690<k):bb.f k ⟨x.toArray⟩=some ((Crc.sum x:Nat):Int):=by
 have r:(⟨x.toArray⟩:ByteArray).size=x.length:=by show x.toArray.size=_;simp
 have:=ow ⟨x.toArray⟩ (by omega) x.length 0 k 4294967295 (by omega) (by omega) (by omega);exact this
end Go.Proofs.YtiphlfpainoeiaaGreatDoor
namespace Go.Proofs.YtiphlfpainoeiaaGreatDoor.L
open Go.RowKit Go.Proofs.YtiphlfpainoeiaaGreatDoorW.PrintWords
def gsL:Nat→ByteArray→List UInt8→Nat→ByteArray×ByteArray×Bool
 |0,_,_,_=>(⟨#[]⟩,⟨#[]⟩,false)
 |n+1,s,b,i=>if h:i<s.size then
   (if s[i]=0 then
    (if q:i+1<s.size then(if s[i+1]=255 then gsL n s (b++ [0]) (i+2)else(⟨b.toArray⟩,s.extract (i+1) s.size,true))else(⟨b.toArray⟩,s.extract (i+1) s.size,true))
    else gsL n s (b++ [s[i]]) (i+1))
  else(⟨#[]⟩,⟨#[]⟩,false)
def ck.f(s:ByteArray):Option (ByteArray×ByteArray×Bool):=if s.size<140737488355328 then some (gsL (s.size+1) s [] 0)else none
theorem gb{B:Nat}{w W q:World}(h:Below B w W)(k:Below B W q):Below B w q:=h.trans k
theorem IsB.drew{B b:Nat}{q:List Value}{w:World}(h:Lib.IsBuilder 68 5 B b q w):Lib.IsBuilder 68 5 B b q w.drew:=h
theorem IsB.undrew{B:Nat}{w W:World}(h:Below B w.drew W):Below B w W:=⟨h.os,h.tape,h.output,h.size,h.block⟩
set_option maxHeartbeats 8000000 in
set_option maxRecDepth 100000 in
theorem ck.calls(s r1 r2:ByteArray)(r3:Bool)(w:World)(h:ck.f s=some (r1,r2,r3)):
 Calls Tryz.prog 140 #[.string s] w fun e w'=>e= .returned (.tuple #[.string r1, .string r2, .bool r3])∧Below w.heap.size w w':=by
 unfold ck.f at h;split at h;case isFalse=>cases h
 rename_i hsz;have HR:=rn (rD h);clear h;have hB0:=rn (ai (rr w.heap.size w) (.cells #[.pointer none, .slice none 0 0] 68));have hI0:=rn (show Lib.IsBuilder 68 5 w.heap.size w.heap.size (Lib.byteCells []) (w.alloc (.cells #[.pointer none, .slice none 0 0] 68))from .inl ⟨rA _, .slice none 0 0,rP w _,World.ownsRow_nil _ _ _ _,by simp [Value.ownBlock]⟩);go_enter Tryz.func140,Tryz.ntmps140;go_wp2;go_loopw [6] (fun i wr=>∃(n k:Nat) (b:List UInt8),k≤s.size∧i= .int .i64 k∧s.size-k<n∧b.length≤k∧Hid (gsL n s b k=(r1,r2,r3))∧Hid (Lib.IsBuilder 68 5 w.heap.size w.heap.size (Lib.byteCells b) wr)∧Hid (Below w.heap.size w wr)) (fun i _=>s.size-(intOf i).toNat);case atStart=>exact⟨s.size+1,0,[],rR _,rfl,by omega,rA _,HR,hI0,hB0⟩
 case round=>
  obtain⟨U,rfl⟩:∃U:World,U=wr:=⟨_,rfl⟩;obtain⟨n,k,b,hk,rfl,hn,hb,D,J,y⟩:=hrel;obtain⟨n,rfl⟩:∃m,n=m+1:=⟨n-1,by omega⟩;by_cases ap:k<s.size
  ·have hi0:(0:Int)≤(k:Int):=by omega
   have hi1:(k:Int)<(s.size:Int):=(by omega);have q:=D.out;unfold gsL at q;rw [dif_pos ap]at q;by_cases Z:s[k]=0
   ·rw [rp Z]at q
    by_cases am:k+1<s.size
    ·rw [dif_pos am]at q
     have hl3:(k:Int)+1<(s.size:Int):=(by omega);by_cases Y:s[k+1]=255
     ·rw [rp Y]at q
      have V:=rn q;clear q D;go_wp2_with (go_at_call 31;refine(Tryz.Builder_WriteByte w.heap.size w.heap.size (Lib.byteCells b) 0 U J.out (by rw [Lib.byteCells_length];omega) y.out.size).mono ?_;rintro e w1 ⟨rfl,G,r⟩;have X:=rn (show Lib.IsBuilder 68 5 w.heap.size w.heap.size (Lib.byteCells (b++ [0])) w1 from .inr (by simpa [Lib.byteCells]using G));have z:=rn (gb y.out r);clear G r);go_roundw;case rel=>exact⟨n,k+2,b++ [0],by omega,by go_num,by omega,by simp;omega,V,X,z⟩
      case measure=>simp [intOf];omega
     ·rw [rq Y]at q
      have h256:¬(s[k+1].toNat:Int)=255:=(by intro e;apply Y;apply sx.1;simpa using(by exact_mod_cast e:s[k+1].toNat=255));obtain⟨rfl,rfl,rfl⟩:r1=⟨b.toArray⟩∧r2=s.extract (k+1) s.size∧r3=true:=(by simp only [Prod.mk.injEq]at q;exact⟨q.1.symm,q.2.1.symm,q.2.2.symm⟩);clear q D;go_wp2;have hq0:(0:Int)≤(k:Int)+1:=(by omega);have hq1:(k:Int)+1≤(s.size:Int):=(by omega);have hq2:k+1≤s.size:=(by omega);have hw64:IntKind.i64.wrap ((k:Int)+1)=(k:Int)+1:=IntWalk.i64_in _ (by omega)
      go_region_with (go_at_call 33;refine(Tryz.Builder_String_any w.heap.size w.heap.size b _ (IsB.drew J.out) y.out.size).mono ?_;rintro e w1 ⟨rfl,r⟩;have z:=rn (gb y.out (IsB.undrew r));clear r)
      all_goals(go_wp2;go_ret3;exact⟨by first|rfl|(simp [Act.put];done),z.out⟩)
    ·rw [dif_neg am]at q
     have hl3:¬(k:Int)+1<(s.size:Int):=(by omega);obtain⟨rfl,rfl,rfl⟩:r1=⟨b.toArray⟩∧r2=s.extract (k+1) s.size∧r3=true:=(by simp only [Prod.mk.injEq]at q;exact⟨q.1.symm,q.2.1.symm,q.2.2.symm⟩);clear q D;go_wp2;have hq0:(0:Int)≤(k:Int)+1:=(by omega);have hq1:(k:Int)+1≤(s.size:Int):=(by omega);have hq2:k+1≤s.size:=(by omega);have hw64:IntKind.i64.wrap ((k:Int)+1)=(k:Int)+1:=IntWalk.i64_in _ (by omega)
     go_region_with (go_at_call 33;refine(Tryz.Builder_String_any w.heap.size w.heap.size b _ (IsB.drew J.out) y.out.size).mono ?_;rintro e w1 ⟨rfl,r⟩;have z:=rn (gb y.out (IsB.undrew r));clear r)
     all_goals(go_wp2;go_ret3;exact⟨by first|rfl|(simp [Act.put];done),z.out⟩)
   ·rw [rq Z]at q
    have hz2:¬(s[k].toNat:Int)=0:=(by intro e;apply Z;apply sx.1;simpa using(by exact_mod_cast e:s[k].toNat=0));have V:=rn q;clear q D;go_wp2_with (go_at_call 31;refine(Tryz.Builder_WriteByte w.heap.size w.heap.size (Lib.byteCells b) (s[k].toNat:Int) U J.out (by rw [Lib.byteCells_length];omega) y.out.size).mono ?_;rintro e w1 ⟨rfl,G,r⟩;have X:=rn (show Lib.IsBuilder 68 5 w.heap.size w.heap.size (Lib.byteCells (b++ [s[k]])) w1 from .inr (by simpa [Lib.byteCells]using G));have z:=rn (gb y.out r);clear G r);go_roundw;case rel=>exact⟨n,k+1,b++ [s[k]],by omega,by go_num,by omega,by simp;omega,V,X,z⟩
    case measure=>simp [intOf];omega
  ·have hkl:k=s.size:=by omega
   subst hkl;have q:=D.out;unfold gsL at q;rw [dif_neg ap]at q;obtain⟨rfl,rfl,rfl⟩:r1=⟨#[]⟩∧r2=⟨#[]⟩∧r3=false:=(by simp only [Prod.mk.injEq]at q;exact⟨q.1.symm,q.2.1.symm,q.2.2.symm⟩);go_wp2
   go_ret3
   exact⟨rfl,y.out⟩
end Go.Proofs.YtiphlfpainoeiaaGreatDoor.L
