/- Part 3 of the proof of RedoRecords (conditions: none beyond the statement's own guards). -/
import Derived.Test.YtiphlfpainoeiaaGreatDoorQ02
set_option linter.unusedVariables false
set_option linter.unusedSimpArgs false
namespace Go.Proofs.YtiphlfpainoeiaaGreatDoor.L
open Go.RowKit Go.Proofs.YtiphlfpainoeiaaGreatDoorW.PrintWords Go.Proofs.YtiphlfpainoeiaaGreatDoorW.PrintLast Go.Proofs.YtiphlfpainoeiaaGreatDoorW.PrintMore
attribute [local go_sem] cj cB
def cJ.l0:Nat→List (S84)→List (S84)→List Int→Int→Int→Option ((List (S84)))
 |0,_,_,_,_,_=>none
 |k+1,r,y,q,z,h=>if h<z then(if 0≤h then(if h<(q.length:Int)then(if 0≤(rd q h)then(if(rd q h)<(r.length:Int)then(if y.length<3518437208883 then(cJ.l0 k r (y++ [(⟨(af r (rd q h)).f0,(af r (rd q h)).f1,(af r (rd q h)).f2,(af r (rd q h)).f3⟩:S84)]) q z (wrap64 (h+1)))else(none))else(none))else(none))else(none))else(none))else(some y)
def cJ.f(k:Nat)(l0:List (S84))(l1:List Int):Option ((List (S84))):=cJ.l0 k l0 ([]:List (S84)) l1 (l1.length:Int) 0
set_option maxHeartbeats 8000000 in
set_option maxRecDepth 100000 in
theorem cJ.calls(k:Nat)(A0:Option Addr)(c0:Nat)(l0:List (S84))(A1:Option Addr)(c1:Nat)(l1:List Int)(r:List (S84))(w:World)(hr0:Kd.C k84 w A0 l0.length l0)(hc0:l0.length≤c0)(hr1:Kd.C (Kd.int .i64) w A1 l1.length l1)(hc1:l1.length≤c1)(h:cJ.f k l0 l1=some r):
 Calls Tryz.prog 79 #[.slice A0 l0.length c0, .slice A1 l1.length c1] w fun e D=>∃v0_:Value,e= .returned (v0_)∧Kd.R k84 84 D w.heap.size (fun _=>True) v0_ r∧Below w.heap.size w D:=by
 have HR0:=aa.mk hr0;clear hr0 hc0;have HR1:=aa.mk hr1;clear hr1 hc1;have y:=aa.mk (rr w.heap.size w);have H:(cJ.l0 k l0 ([]:List (S84)) l1 (l1.length:Int) 0)=some r:=h;clear h;have G:=aa.mk H;clear H;go_enter Tryz.func79,Tryz.ntmps79;go_wp2
 go_loopg [5,10] k (fun kq v5 v10 D=>∃(z:List (S84)) (q:Int),v10= .int .i64 q∧aa (cJ.l0 kq l0 z l1 (l1.length:Int) q=some r)∧aa (kq≤k)∧aa (Kd.R k84 84 D w.heap.size (fun _=>True) v5 z)∧aa (Below w.heap.size w D))
 case atStart=>exact⟨(([]:List (S84))),(0),rfl,G,⟨rA _⟩,⟨by exact Kd.R_nil _ _ _ _ _⟩,⟨y.out⟩⟩
 case round=>
  clear G;obtain⟨z,q,rfl,J,HK1,U,y⟩:=hrel;cases gk with
  |zero=>exact absurd J.out (by simp [cJ.l0])
  |succ k1=>
   have H:=J.out;clear J;simp only [cJ.l0]at H;by_cases c3:q<(l1.length:Int)
   ·rw [rp c3]at H
    have c3b0:decide (q<(l1.length:Int))=true:=ru c3;clear c3;by_cases c4:0≤q
    ·rw [rp c4]at H
     have c4b0:decide (0≤q)=true:=ru c4;clear c4;by_cases c5:q<(l1.length:Int)
     ·rw [rp c5]at H
      have c5b0:decide (q<(l1.length:Int))=true:=ru c5;clear c5;by_cases c6:0≤(rd l1 q)
      ·rw [rp c6]at H
       have c6b0:decide (0≤(rd l1 q))=true:=ru c6;clear c6;by_cases c7:(rd l1 q)<(l0.length:Int)
       ·rw [rp c7]at H
        have c7b0:decide ((rd l1 q)<(l0.length:Int))=true:=ru c7;clear c7;by_cases c8:z.length<3518437208883
        ·rw [rp c8]at H
         have LMc8:=aa.mk c8;clear c8;obtain⟨y138,V⟩:∃y_:List (S84),y_=(z++ [(⟨(af l0 (rd l1 q)).f0,(af l0 (rd l1 q)).f1,(af l0 (rd l1 q)).f2,(af l0 (rd l1 q)).f3⟩:S84)]):=⟨_,rfl⟩;replace H:(cJ.l0 k1 l0 y138 l1 (l1.length:Int) (wrap64 (q+1)))=some r:=by(rw [V];with_reducible exact H)
         have Ny138:=aa.mk V;clear V;have G:=aa.mk H;clear H;have X:0≤(q:Int):=dA;have Z:q<(l1.length:Int):=dA;obtain⟨ad136,e136,hx136_0⟩:=Kd.at_int HR1.out q X Z;cases e136;replace hx136_0:=mvO y hx136_0;replace X:=rF X;replace Z:=rF Z;have Y:0≤((rd l1 q):Int):=dA;have am:(rd l1 q)<(l0.length:Int):=dA;obtain⟨ad137,e137,hx137_0,hx137_1,hx137_2,hx137_3⟩:=dn HR0.out (rd l1 q) Y am;cases e137;replace hx137_0:=mvO y hx137_0;replace hx137_1:=mvO y hx137_1;replace hx137_2:=mvO y hx137_2;replace hx137_3:=mvO y hx137_3;replace Y:=rF Y;replace am:=rF am;go_wp2_with (((with_reducible refine aZ (b:= .append) (xs:= #[.tmp 14, .tmp 19]) rfl ?_);at_builtin;refine Kd.R_append k84 (w0:=w) w.heap.size rfl (.tmp 14) (.tmp 19) 50 84 (.agg #[(.int .i64 0),(.int .i64 0),(.float .f64 0),(.string ⟨#[]⟩)]) 40 rfl Tryz.underlying50 ic rfl (by decide) (by omega) u5 z (⟨(af l0 (rd l1 q)).f0,(af l0 (rd l1 q)).f1,(af l0 (rd l1 q)).f2,(af l0 (rd l1 q)).f3⟩:S84) [.int .i64 ((af l0 (rd l1 q)).f0), .int .i64 ((af l0 (rd l1 q)).f1), .float .f64 ((af l0 (rd l1 q)).f2), .string ((af l0 (rd l1 q)).f3)] (fun _=>True) (fun _=>False) rfl rfl ?aP (fun _ hk=>hk.elim) ?aF ?aO ?aB ?aS ?aL ?_;(case aP=>exact fo _ _ _ (⟨(af l0 (rd l1 q)).f0,(af l0 (rd l1 q)).f1,(af l0 (rd l1 q)).f2,(af l0 (rd l1 q)).f3⟩:S84));(case aB=>exact y.out);(case aF=>exact(fun _ _=>trivial));(case aO=>exact U.out);(case aS=>exact(ay y.out));(case aL=>have:=LMc8.out;omega);intro v139 w9 ho hb hg hat;rw [←Ny138.out]at ho;replace y:=aa.mk (hb);have HO140:=aa.mk (ho);clear U;clear ho hb hg hat))
         go_roundg k1
         case measure=>have:=HK1.out;omega
         case rel=>exact⟨(y138),(wrap64 (q+1)),rfl,G,⟨by have:=HK1.out;omega⟩,⟨HO140.out⟩,⟨y.out⟩⟩
        ·rw [rq c8]at H
         exact absurd H (by simp)
       ·rw [if_neg c7]at H
        exact absurd H (by simp)
      ·rw [if_neg c6]at H
       exact absurd H (by simp)
     ·rw [if_neg c5]at H
      exact absurd H (by simp)
    ·rw [if_neg c4]at H
     exact absurd H (by simp)
   ·rw [if_neg c3]at H
    have c3b0:decide (q<(l1.length:Int))=false:=rC c3;clear c3;obtain rfl:=rD H;go_wp2;go_ret;exact⟨_,by rfl,by exact U.out,by exact y.out⟩
def bo.l0:Nat→Int→List Int→Option (ByteArray)
 |0,_,_=>none
 |k+1,h,q=>if h>127 then(if q.length<140737488355328 then(bo.l0 k (h/128) (q++ [Go.bits .or .u8 ((h)%256) 128]))else(none))else(if q.length<140737488355328 then(some (strOfNums (q++ [(h)%256])))else(none))
def bo.f(k:Nat)(a0:Int):Option (ByteArray):=bo.l0 k a0 ([]:List Int)
set_option maxHeartbeats 8000000 in
set_option maxRecDepth 100000 in
theorem bo.calls(k:Nat)(a0:Int)(r:ByteArray)(w:World)(h:bo.f k a0=some r):
 Calls Tryz.prog 29 #[.int .u64 a0] w fun e U=>e= .returned (.string r)∧Below w.heap.size w U:=by
 have y:=aa.mk (rr w.heap.size w);have H:(bo.l0 k a0 ([]:List Int))=some r:=h;clear h;have G:=aa.mk H;clear H;go_enter Tryz.func29,Tryz.ntmps29;go_wp2
 go_loopg [0,3] k (fun kq v0 v3 U=>∃(q:Int) (z:List Int),v0= .int .u64 q∧aa (bo.l0 kq q z=some r)∧aa (kq≤k)∧aa (Kd.R (Kd.int .u8) 5 U w.heap.size (fun _=>True) v3 z)∧aa (Below w.heap.size w U))
 case atStart=>exact⟨(a0),(([]:List Int)),rfl,G,⟨rA _⟩,⟨by exact Kd.R_nil _ _ _ _ _⟩,⟨y.out⟩⟩
 case round=>
  clear G;obtain⟨q,z,rfl,V,HK1,J,y⟩:=hrel;cases gk with
  |zero=>exact absurd V.out (by simp [bo.l0])
  |succ k1=>
   have H:=V.out;clear V;simp only [bo.l0]at H;by_cases c2:q>127
   ·rw [rp c2]at H
    have c2b0:decide (127<q)=true:=ru c2;clear c2;by_cases c3:z.length<140737488355328
    ·rw [rp c3]at H
     have LMc3:=aa.mk c3;clear c3;obtain⟨y141,Z⟩:∃y_:List Int,y_=(z++ [Go.bits .or .u8 ((q)%256) 128]):=⟨_,rfl⟩;replace H:(bo.l0 k1 (q/128) y141)=some r:=by(rw [Z];with_reducible exact H)
     have Ny141:=aa.mk Z;clear Z;have G:=aa.mk H;clear H;go_wp2_with (((with_reducible refine aZ (b:= .append) (xs:= #[.tmp 8, .tmp 12]) rfl ?_);at_builtin;refine Kd.R_append (Kd.int .u8) (w0:=w) w.heap.size rfl (.tmp 8) (.tmp 12) 66 5 (.int .u8 0) 1 rfl Tryz.underlying66 b8 rfl (by decide) (by omega) u3 z (Go.bits .or .u8 ((q)%256) 128) [.int .u8 (Go.bits .or .u8 ((q)%256) 128)] (fun _=>True) (fun _=>False) rfl rfl ?aP (fun _ Y=>Y.elim) ?aF ?aO ?aB ?aS ?aL ?_;(case aP=>exact rfl);(case aB=>exact y.out);(case aF=>exact(fun _ _=>trivial));(case aO=>exact J.out);(case aS=>exact(ay y.out));(case aL=>have:=LMc3.out;omega);intro v142 w4 ho D hg X;rw [←Ny141.out]at ho;replace y:=aa.mk (D);have HO143:=aa.mk (ho);clear J;clear ho D hg X))
     go_roundg k1
     case measure=>have:=HK1.out;omega
     case rel=>exact⟨(q/128),(y141),rfl,G,⟨by have:=HK1.out;omega⟩,⟨HO143.out⟩,⟨y.out⟩⟩
    ·rw [rq c3]at H
     exact absurd H (by simp)
   ·rw [if_neg c2]at H
    have c2b0:decide (127<q)=false:=rC c2;clear c2;by_cases c5:z.length<140737488355328
    ·rw [rp c5]at H
     have LMc5:=aa.mk c5;clear c5;obtain⟨y144,am⟩:∃y_:List Int,y_=(z++ [(q)%256]):=⟨_,rfl⟩;replace H:(some (strOfNums y144))=some r:=by(rw [am];with_reducible exact H)
     have Ny144:=aa.mk am;clear am;obtain rfl:=rD H;go_wp2_with (((with_reducible refine aZ (b:= .append) (xs:= #[.tmp 14, .tmp 17]) rfl ?_);at_builtin;refine Kd.R_append (Kd.int .u8) (w0:=w) w.heap.size rfl (.tmp 14) (.tmp 17) 66 5 (.int .u8 0) 1 rfl Tryz.underlying66 b8 rfl (by decide) (by omega) u3 z ((q)%256) [.int .u8 ((q)%256)] (fun _=>True) (fun _=>False) rfl rfl ?aP (fun _ Y=>Y.elim) ?aF ?aO ?aB ?aS ?aL ?_;(case aP=>exact rfl);(case aB=>exact y.out);(case aF=>exact(fun _ _=>trivial));(case aO=>exact J.out);(case aS=>exact(ay y.out));(case aL=>have:=LMc5.out;omega);intro v145 w6 ho D hg X;rw [←Ny144.out]at ho;replace y:=aa.mk (D);have HO146:=aa.mk (ho);clear J;clear ho D hg X;have hcv7:=dk (P:=Tryz.prog) Tryz.underlying66 Tryz.underlying5 Tryz.underlying9 (Kd.own_of_R HO146.out)));go_ret;exact⟨by rfl,by exact y.out⟩
    ·rw [rq c5]at H
     exact absurd H (by simp)
def ca.l0:Nat→Int→List Int→Int→Int→Option (ByteArray)
 |0,_,_,_,_=>none
 |k+1,r,q,y,h=>if h<y then(if 0≤(wrap64 (8*h))then(if q.length<140737488355328 then(ca.l0 k r (q++ [(shr .u64 r (wrap64 (8*h)))%256]) y (wrap64 (h+1)))else(none))else(none))else(some (strOfNums q))
def ca.f(k:Nat)(a0:Int)(h:Int):Option (ByteArray):=ca.l0 k a0 ([]:List Int) h 0
set_option maxHeartbeats 8000000 in
set_option maxRecDepth 100000 in
theorem ca.calls(k:Nat)(a0:Int)(y:Int)(r:ByteArray)(w:World)(h:ca.f k a0 y=some r):
 Calls Tryz.prog 15 #[.int .u64 a0, .int .i64 y] w fun e X=>e= .returned (.string r)∧Below w.heap.size w X:=by
 have D:=aa.mk (rr w.heap.size w);have H:(ca.l0 k a0 ([]:List Int) y 0)=some r:=h;clear h;have U:=aa.mk H;clear H;go_enter Tryz.func15,Tryz.ntmps15;go_wp2
 go_loopg [5,8] k (fun kq v5 v8 X=>∃(z:List Int) (q:Int),v8= .int .i64 q∧aa (ca.l0 kq a0 z y q=some r)∧aa (kq≤k)∧aa (Kd.R (Kd.int .u8) 5 X w.heap.size (fun _=>True) v5 z)∧aa (Below w.heap.size w X))
 case atStart=>exact⟨(([]:List Int)),(0),rfl,U,⟨rA _⟩,⟨by exact Kd.R_nil _ _ _ _ _⟩,⟨D.out⟩⟩
 case round=>
  clear U;obtain⟨z,q,rfl,Y,HK1,Z,D⟩:=hrel;cases gk with
  |zero=>exact absurd Y.out (by simp [ca.l0])
  |succ V=>
   have H:=Y.out;clear Y;simp only [ca.l0]at H;by_cases c3:q<y
   ·rw [rp c3]at H
    have c3b0:decide (q<y)=true:=ru c3;clear c3;obtain⟨G,hji4⟩:∃j_:Int,(wrap64 (8*q))=j_:=⟨_,rfl⟩;replace H:(if 0≤(G)then(if z.length<140737488355328 then(ca.l0 V a0 (z++ [(shr .u64 a0 (G))%256]) y (wrap64 (q+1)))else(none))else(none))=some r:=by(rw [hji4]at H;exact H)
    have hji4w:(IntKind.i64.wrap (8*q))=G:=(dI _).trans hji4;by_cases c5:0≤(G)
    ·rw [rp c5]at H
     have c5b0:=rF c5;clear c5;obtain⟨J,hji6⟩:∃j_:Int,(shr .u64 a0 (G))=j_:=⟨_,rfl⟩;replace H:(if z.length<140737488355328 then(ca.l0 V a0 (z++ [(J)%256]) y (wrap64 (q+1)))else(none))=some r:=by(rw [hji6]at H;exact H)
     have hji6_:(a0/2^min (G).toNat 64)=J:=hji6;by_cases c7:z.length<140737488355328
     ·rw [rp c7]at H
      have LMc7:=aa.mk c7;clear c7;obtain⟨y147,am⟩:∃y_:List Int,y_=(z++ [(J)%256]):=⟨_,rfl⟩;replace H:(ca.l0 V a0 y147 y (wrap64 (q+1)))=some r:=by(rw [am];with_reducible exact H)
      have Ny147:=aa.mk am;clear am;have U:=aa.mk H;clear H;go_wp2_with (((with_reducible refine aZ (b:= .append) (xs:= #[.tmp 11, .tmp 17]) rfl ?_);at_builtin;refine Kd.R_append (Kd.int .u8) (w0:=w) w.heap.size rfl (.tmp 11) (.tmp 17) 66 5 (.int .u8 0) 1 rfl Tryz.underlying66 b8 rfl (by decide) (by omega) u5 z ((J)%256) [.int .u8 ((J)%256)] (fun _=>True) (fun _=>False) rfl rfl ?aP (fun _ hk=>hk.elim) ?aF ?aO ?aB ?aS ?aL ?_;(case aP=>exact rfl);(case aB=>exact D.out);(case aF=>exact(fun _ _=>trivial));(case aO=>exact Z.out);(case aS=>exact(ay D.out));(case aL=>have:=LMc7.out;omega);intro v148 w8 ho hb hg hat;rw [←Ny147.out]at ho;replace D:=aa.mk (hb);have HO149:=aa.mk (ho);clear Z;clear ho hb hg hat))
      go_roundg V
      case measure=>have:=HK1.out;omega
      case rel=>exact⟨(y147),(wrap64 (q+1)),rfl,U,⟨by have:=HK1.out;omega⟩,⟨HO149.out⟩,⟨D.out⟩⟩
     ·rw [rq c7]at H
      exact absurd H (by simp)
    ·rw [if_neg c5]at H
     exact absurd H (by simp)
   ·rw [if_neg c3]at H
    have c3b0:decide (q<y)=false:=rC c3;clear c3;obtain rfl:=rD H;have hcv9:=dk (P:=Tryz.prog) Tryz.underlying66 Tryz.underlying5 Tryz.underlying9 (Kd.own_of_R Z.out);go_wp2;go_ret;exact⟨by rfl,by exact D.out⟩
def ep.f(h:Int)(q:Int)(r:Nat)(y:ByteArray):Option (Int):=if h=0 then(some 0)else(if h=1 then(if q=1 then(some 2)else(some 1))else(some 1))
set_option maxHeartbeats 8000000 in
set_option maxRecDepth 100000 in
theorem ep.calls(q:Int)(G:Int)(U:Nat)(V:ByteArray)(r:Int)(w:World)(h:ep.f q G U V=some r):
 Calls Tryz.prog 82 #[.agg #[.int .i64 q, .int .i64 G, .float .f64 U, .string V]] w fun e w'=>e= .returned (.int .u8 r)∧Below w.heap.size w w':=by
 have y:=aa.mk (rr w.heap.size w);have H:(if q=0 then(some 0)else(if q=1 then(if G=1 then(some 2)else(some 1))else(some 1)))=some r:=h;clear h;by_cases c2:q=0
 ·rw [rp c2]at H
  have Y:(q==0)=true:=rI.mpr c2;clear c2;obtain rfl:=rD H;go_enter Tryz.func82,Tryz.ntmps82;go_wp2_with (((with_reducible refine aM (N:=1) rfl ?_);refine aI ?hg (N:=1) ?hd (cs:= #[.int .i64 q, .int .i64 G, .float .f64 U, .string V]) (t:=84) ?hr ?_;(case hd=>rfl);(case hg=>rfl);(case hr=>(go_simp;done));intro X hg w3 D z;have J:=aa.mk D;replace y:=bsO y z;clear z D hg;obtain⟨hcz4_0,hcz4_1,hcz4_2,hcz4_3,hfz4_0,hfz4_1,hfz4_2,hfz4_3⟩:=cz4 J));go_ret;exact⟨by rfl,by exact y.out⟩
 ·rw [rq c2]at H
  have Y:(q==0)=false:=ry.mpr c2;by_cases c5:q=1
  ·rw [rp c5]at H
   have Z:(q==1)=true:=rI.mpr c5;clear c5;by_cases c6:G=1
   ·rw [rp c6]at H
    have am:(G==1)=true:=rI.mpr c6;clear c6;obtain rfl:=rD H;go_enter Tryz.func82,Tryz.ntmps82;go_wp2_with (((with_reducible refine aM (N:=1) rfl ?_);refine aI ?hg (N:=1) ?hd (cs:= #[.int .i64 q, .int .i64 G, .float .f64 U, .string V]) (t:=84) ?hr ?_;(case hd=>rfl);(case hg=>rfl);(case hr=>(go_simp;done));intro X hg w7 D z;have J:=aa.mk D;replace y:=bsO y z;clear z D hg;obtain⟨hcz8_0,hcz8_1,hcz8_2,hcz8_3,hfz8_0,hfz8_1,hfz8_2,hfz8_3⟩:=cz4 J));go_ret;exact⟨by rfl,by exact y.out⟩
   ·rw [rq c6]at H
    have am:(G==1)=false:=ry.mpr c6;obtain rfl:=rD H;go_enter Tryz.func82,Tryz.ntmps82;go_wp2_with (((with_reducible refine aM (N:=1) rfl ?_);refine aI ?hg (N:=1) ?hd (cs:= #[.int .i64 q, .int .i64 G, .float .f64 U, .string V]) (t:=84) ?hr ?_;(case hd=>rfl);(case hg=>rfl);(case hr=>(go_simp;done));intro X hg w9 D z;have J:=aa.mk D;replace y:=bsO y z;clear z D hg;obtain⟨hcz10_0,hcz10_1,hcz10_2,hcz10_3,hfz10_0,hfz10_1,hfz10_2,hfz10_3⟩:=cz4 J));go_ret;exact⟨by rfl,by exact y.out⟩
  ·rw [rq c5]at H
   have Z:(q==1)=false:=ry.mpr c5;obtain rfl:=rD H;go_enter Tryz.func82,Tryz.ntmps82;go_wp2_with (((with_reducible refine aM (N:=1) rfl ?_);refine aI ?hg (N:=1) ?hd (cs:= #[.int .i64 q, .int .i64 G, .float .f64 U, .string V]) (t:=84) ?hr ?_;(case hd=>rfl);(case hg=>rfl);(case hr=>(go_simp;done));intro X hg w11 D z;have J:=aa.mk D;replace y:=bsO y z;clear z D hg;obtain⟨hcz12_0,hcz12_1,hcz12_2,hcz12_3,hfz12_0,hfz12_1,hfz12_2,hfz12_3⟩:=cz4 J));go_ret;exact⟨by rfl,by exact y.out⟩
def bd.l0:Nat→List Int→List Int→Int→Option (List Int)
 |0,_,_,_=>none
 |k+1,q,r,h=>if h<(q.length:Int)then(if 0≤h then(if r.length<17592186044416 then(bd.l0 k q (r++ [rd q h]) (wrap64 (h+1)))else(none))else(none))else(some r)
def bd.f(k:Nat)(l0:List Int):Option (List Int):=bd.l0 k l0 (([]:List Int)) 0
set_option maxHeartbeats 8000000 in
set_option maxRecDepth 100000 in
theorem bd.calls(k:Nat)(A0:Option Addr)(c0:Nat)(l0:List Int)(r:List Int)(w:World)(hr0:Kd.C (Kd.int .i64) w A0 l0.length l0)(hc0:l0.length≤c0)(h:bd.f k l0=some r):
 Calls Tryz.prog 35 #[.slice A0 l0.length c0] w fun e G=>∃v0_:Value,e= .returned (v0_)∧Kd.R (Kd.int .i64) 3 G w.heap.size (fun _=>True) v0_ r∧Below w.heap.size w G:=by
 have HR0:=aa.mk hr0;clear hr0 hc0;have y:=aa.mk (rr w.heap.size w);have H:(bd.l0 k l0 (([]:List Int)) 0)=some r:=h;clear h;obtain⟨y151,Z⟩:∃y_:List Int,y_=(([]:List Int)):=⟨_,rfl⟩;replace H:(bd.l0 k l0 y151 0)=some r:=by(rw [Z];with_reducible exact H)
 have Ny151:=aa.mk Z;clear Z;have J:=aa.mk H;clear H;go_enter Tryz.func35,Tryz.ntmps35;go_wp2_with (((with_reducible refine aM (N:=5) rfl ?_);refine Kd.R_lit (Kd.int .i64) _ 3 ?hg (N:=5) ?hd (xs:=([]:List Int)) (inner:=[]) (ok:=fun _=>True) (okp:=fun _=>True) ?hr ?hp (fun _ X=>X) trivial (rr _ _) (rA _) (by simp) ?_;(case hd=>rfl);(case hg=>rfl);(case hr=>(go_simp;done));(case hp=>exact(dg.none _ _));intro v152 w2 Y D hg_ hnew_;clear hg_ hnew_;(rw [←Ny151.out]at Y);have HO153:=aa.mk (Kd.R_lower Y (ay y.out));replace y:=bsO y D;clear D Y))
 go_loopg [3,4] k (fun kq v3 v4 G=>∃(z:List Int) (q:Int),v4= .int .i64 q∧aa (bd.l0 kq l0 z q=some r)∧aa (kq≤k)∧aa (Kd.R (Kd.int .i64) 3 G w.heap.size (fun _=>True) v3 z)∧aa (Below w.heap.size w G))
 case atStart=>exact⟨(y151),(0),rfl,J,⟨rA _⟩,⟨HO153.out⟩,⟨y.out⟩⟩
 case round=>
  clear J;obtain⟨z,q,rfl,U,HK1,V,y⟩:=hrel;cases gk with
  |zero=>exact absurd U.out (by simp [bd.l0])
  |succ k1=>
   have H:=U.out;clear U;simp only [bd.l0]at H;by_cases c4:q<(l0.length:Int)
   ·rw [rp c4]at H
    have c4b0:decide (q<(l0.length:Int))=true:=ru c4;clear c4;by_cases c5:0≤q
    ·rw [rp c5]at H
     have c5b0:decide (0≤q)=true:=ru c5;clear c5;by_cases c6:z.length<17592186044416
     ·rw [rp c6]at H
      have LMc6:=aa.mk c6;clear c6;obtain⟨y155,am⟩:∃y_:List Int,y_=(z++ [rd l0 q]):=⟨_,rfl⟩;replace H:(bd.l0 k1 l0 y155 (wrap64 (q+1)))=some r:=by(rw [am];with_reducible exact H)
      have Ny155:=aa.mk am;clear am;have J:=aa.mk H;clear H;have ap:0≤(q:Int):=dA;have av:q<(l0.length:Int):=dA;obtain⟨ad154,e154,hx154_0⟩:=Kd.at_int HR0.out q ap av;cases e154;replace hx154_0:=mvO y hx154_0;replace ap:=rF ap;replace av:=rF av;go_wp2_with (((with_reducible refine aZ (b:= .append) (xs:= #[.tmp 12, .tmp 17]) rfl ?_);at_builtin;refine Kd.R_append (Kd.int .i64) (w0:=w) w.heap.size rfl (.tmp 12) (.tmp 17) 44 3 (.int .i64 0) 8 rfl Tryz.underlying44 ig rfl (by decide) (by omega) u3 z (rd l0 q) [.int .i64 (rd l0 q)] (fun _=>True) (fun _=>False) rfl rfl ?aP (fun _ X=>X.elim) ?aF ?aO ?aB ?aS ?aL ?_;(case aP=>exact rfl);(case aB=>exact y.out);(case aF=>exact(fun _ _=>trivial));(case aO=>exact V.out);(case aS=>exact(ay y.out));(case aL=>have:=LMc6.out;omega);intro v156 w7 ho D hg hat;rw [←Ny155.out]at ho;replace y:=aa.mk (D);have HO157:=aa.mk (ho);clear V;clear ho D hg hat))
      go_roundg k1
      case measure=>have:=HK1.out;omega
      case rel=>exact⟨(y155),(wrap64 (q+1)),rfl,J,⟨by have:=HK1.out;omega⟩,⟨HO157.out⟩,⟨y.out⟩⟩
     ·rw [rq c6]at H
      exact absurd H (by simp)
    ·rw [if_neg c5]at H
     exact absurd H (by simp)
   ·rw [if_neg c4]at H
    have c4b0:decide (q<(l0.length:Int))=false:=rC c4;clear c4;obtain rfl:=rD H;go_wp2;go_ret;exact⟨_,by rfl,by exact V.out,by exact y.out⟩
def bL.l0:Nat→List (S84)→List (S84)→Int→Option ((List (S84)))
 |0,_,_,_=>none
 |k+1,q,r,h=>if h<(q.length:Int)then(if 0≤h then(if r.length<3518437208883 then(bL.l0 k q (r++ [(⟨(af q h).f0,(af q h).f1,(af q h).f2,(af q h).f3⟩:S84)]) (wrap64 (h+1)))else(none))else(none))else(some r)
def bL.f(k:Nat)(l0:List (S84)):Option ((List (S84))):=bL.l0 k l0 (([]:List (S84))) 0
set_option maxHeartbeats 8000000 in
set_option maxRecDepth 100000 in
theorem bL.calls(k:Nat)(A0:Option Addr)(c0:Nat)(l0:List (S84))(r:List (S84))(w:World)(hr0:Kd.C k84 w A0 l0.length l0)(hc0:l0.length≤c0)(h:bL.f k l0=some r):
 Calls Tryz.prog 18 #[.slice A0 l0.length c0] w fun e G=>∃v0_:Value,e= .returned (v0_)∧Kd.R k84 84 G w.heap.size (fun _=>True) v0_ r∧Below w.heap.size w G:=by
 have HR0:=aa.mk hr0;clear hr0 hc0;have y:=aa.mk (rr w.heap.size w);have H:(bL.l0 k l0 (([]:List (S84))) 0)=some r:=h;clear h;obtain⟨y158,Z⟩:∃y_:List (S84),y_=(([]:List (S84))):=⟨_,rfl⟩;replace H:(bL.l0 k l0 y158 0)=some r:=by(rw [Z];with_reducible exact H)
 have Ny158:=aa.mk Z;clear Z;have J:=aa.mk H;clear H;go_enter Tryz.func18,Tryz.ntmps18;go_wp2_with (((with_reducible refine aM (N:=5) rfl ?_);refine Kd.R_lit k84 _ 84 ?hg (N:=5) ?hd (xs:=([]:List (S84))) (inner:=[]) (ok:=fun _=>True) (okp:=fun _=>True) ?hr ?hp (fun _ X=>X) trivial (rr _ _) (rA _) (by simp) ?_;(case hd=>rfl);(case hg=>rfl);(case hr=>(go_simp;done));(case hp=>exact(dg.none _ _));intro v159 w2 Y D hg_ hnew_;clear hg_ hnew_;(rw [←Ny158.out]at Y);have HO160:=aa.mk (Kd.R_lower Y (ay y.out));replace y:=bsO y D;clear D Y))
 go_loopg [3,4] k (fun kq v3 v4 G=>∃(z:List (S84)) (q:Int),v4= .int .i64 q∧aa (bL.l0 kq l0 z q=some r)∧aa (kq≤k)∧aa (Kd.R k84 84 G w.heap.size (fun _=>True) v3 z)∧aa (Below w.heap.size w G))
 case atStart=>exact⟨(y158),(0),rfl,J,⟨rA _⟩,⟨HO160.out⟩,⟨y.out⟩⟩
 case round=>
  clear J;obtain⟨z,q,rfl,U,HK1,V,y⟩:=hrel;cases gk with
  |zero=>exact absurd U.out (by simp [bL.l0])
  |succ k1=>
   have H:=U.out;clear U;simp only [bL.l0]at H;by_cases c4:q<(l0.length:Int)
   ·rw [rp c4]at H
    have c4b0:decide (q<(l0.length:Int))=true:=ru c4;clear c4;by_cases c5:0≤q
    ·rw [rp c5]at H
     have c5b0:decide (0≤q)=true:=ru c5;clear c5;by_cases c6:z.length<3518437208883
     ·rw [rp c6]at H
      have LMc6:=aa.mk c6;clear c6;obtain⟨y162,am⟩:∃y_:List (S84),y_=(z++ [(⟨(af l0 q).f0,(af l0 q).f1,(af l0 q).f2,(af l0 q).f3⟩:S84)]):=⟨_,rfl⟩;replace H:(bL.l0 k1 l0 y162 (wrap64 (q+1)))=some r:=by(rw [am];with_reducible exact H)
      have Ny162:=aa.mk am;clear am;have J:=aa.mk H;clear H;have ap:0≤(q:Int):=dA;have av:q<(l0.length:Int):=dA;obtain⟨ad161,e161,hx161_0,hx161_1,hx161_2,hx161_3⟩:=dn HR0.out q ap av;cases e161;replace hx161_0:=mvO y hx161_0;replace hx161_1:=mvO y hx161_1;replace hx161_2:=mvO y hx161_2;replace hx161_3:=mvO y hx161_3;replace ap:=rF ap;replace av:=rF av;go_wp2_with (((with_reducible refine aZ (b:= .append) (xs:= #[.tmp 12, .tmp 17]) rfl ?_);at_builtin;refine Kd.R_append k84 (w0:=w) w.heap.size rfl (.tmp 12) (.tmp 17) 50 84 (.agg #[(.int .i64 0),(.int .i64 0),(.float .f64 0),(.string ⟨#[]⟩)]) 40 rfl Tryz.underlying50 ic rfl (by decide) (by omega) u3 z (⟨(af l0 q).f0,(af l0 q).f1,(af l0 q).f2,(af l0 q).f3⟩:S84) [.int .i64 ((af l0 q).f0), .int .i64 ((af l0 q).f1), .float .f64 ((af l0 q).f2), .string ((af l0 q).f3)] (fun _=>True) (fun _=>False) rfl rfl ?aP (fun _ X=>X.elim) ?aF ?aO ?aB ?aS ?aL ?_;(case aP=>exact fo _ _ _ (⟨(af l0 q).f0,(af l0 q).f1,(af l0 q).f2,(af l0 q).f3⟩:S84));(case aB=>exact y.out);(case aF=>exact(fun _ _=>trivial));(case aO=>exact V.out);(case aS=>exact(ay y.out));(case aL=>have:=LMc6.out;omega);intro v163 w7 ho D hg hat;rw [←Ny162.out]at ho;replace y:=aa.mk (D);have HO164:=aa.mk (ho);clear V;clear ho D hg hat))
      go_roundg k1
      case measure=>have:=HK1.out;omega
      case rel=>exact⟨(y162),(wrap64 (q+1)),rfl,J,⟨by have:=HK1.out;omega⟩,⟨HO164.out⟩,⟨y.out⟩⟩
     ·rw [rq c6]at H
      exact absurd H (by simp)
    ·rw [if_neg c5]at H
     exact absurd H (by simp)
   ·rw [if_neg c4]at H
    have c4b0:decide (q<(l0.length:Int))=false:=rC c4;clear c4;obtain rfl:=rD H;go_wp2;go_ret;exact⟨_,by rfl,by exact V.out,by exact y.out⟩
def aE.l0:Nat→ByteArray→Int→Int→Option (Int)
 |0,_,_,_=>none
 |k+1,q,r,h=>if h<(q.size:Int)then(if 0≤h then(aE.l0 k q (Go.bits .or .u64 (IntKind.u64.wrap (r*256)) (IntKind.u64.wrap (bt q h))) (wrap64 (h+1)))else(none))else(some r)
def aE.f(k:Nat)(a0:ByteArray):Option (Int):=aE.l0 k a0 0 0
theorem aE.mono_l:∀k,(∀q y z,LeO (aE.l0 k q y z) (aE.l0 (k+1) q y z))
 |0=>fun _ _ _ r h=>by simp [aE.l0]at h
 |k+1=>by
  have D:=aE.mono_l k
  ·intro q y z
   unfold aE.l0
   repeat' first|(with_reducible exact D _ _ _)|(with_reducible exact LeO.refl _)|(with_reducible exact LeO.none _)|(with_reducible refine LeO.ite ?_ ?_)|(with_reducible refine LeO.bind ?_ (fun _=>?_))|exact D _ _ _|exact LeO.none _|refine LeO.ite ?_ ?_|refine LeO.bind ?_ (fun _=>?_)
theorem aE.mono:∀a0 k,LeO (aE.f k a0) (aE.f (k+1) a0):=by
 intro a0 k;have h:=aE.mono_l k;unfold aE.f
 repeat' first|(with_reducible exact h _ _ _)|(with_reducible exact LeO.refl _)|(with_reducible exact LeO.none _)|(with_reducible refine LeO.ite ?_ ?_)|(with_reducible refine LeO.bind ?_ (fun _=>?_))|exact h _ _ _|exact LeO.none _|refine LeO.ite ?_ ?_|refine LeO.bind ?_ (fun _=>?_)
set_option maxHeartbeats 8000000 in
set_option maxRecDepth 100000 in
theorem aE.calls(k:Nat)(a0:ByteArray)(r:Int)(w:World)(h:aE.f k a0=some r):
 Calls Tryz.prog 114 #[.string a0] w fun e G=>e= .returned (.int .u64 r)∧bM w G:=by
 have H:(aE.l0 k a0 0 0)=some r:=h;clear h;have y:=aa.mk H;clear H;go_enter Tryz.func114,Tryz.ntmps114;go_wp2
 go_loopg [3,4] k (fun U v3 v4 G=>∃(z:Int) (q:Int),v3= .int .u64 z∧v4= .int .i64 q∧aa (aE.l0 U a0 z q=some r)∧aa (U≤k)∧bM w G)
 case atStart=>exact⟨(0),(0),rfl,rfl,y,⟨rA _⟩,by repeat(exact bM.refl _)⟩
 case round=>
  clear y;obtain⟨z,q,rfl,rfl,D,J,⟨m1,rfl⟩⟩:=hrel;cases gk with
  |zero=>exact absurd D.out (by simp [aE.l0])
  |succ Y=>
   have H:=D.out;clear D;simp only [aE.l0]at H;by_cases c2:q<(a0.size:Int)
   ·rw [rp c2]at H
    have X:decide (q<(a0.size:Int))=true:=ru c2;clear c2;by_cases c3:0≤q
    ·rw [rp c3]at H
     have Z:decide (0≤q)=true:=ru c3;clear c3;have y:=aa.mk H;clear H;have V:0≤(q:Int):=dA;have q4:q<(a0.size:Int):=dA;have am:=dy a0 q;replace V:=rF V;replace q4:=rF q4;go_wp2
     go_roundg Y
     case measure=>have:=J.out;omega
     case rel=>exact⟨(Go.bits .or .u64 (IntKind.u64.wrap (z*256)) (IntKind.u64.wrap (bt a0 q))),(wrap64 (q+1)),rfl,rfl,y,⟨by have:=J.out;omega⟩,by repeat(first|exact bM.refl _|apply bM.step)⟩
    ·rw [rq c3]at H
     exact absurd H (by simp)
   ·rw [if_neg c2]at H
    have X:decide (q<(a0.size:Int))=false:=rC c2;clear c2;obtain rfl:=rD H;go_wp2;go_ret;exact⟨by rfl,by repeat(first|exact bM.refl _|apply bM.step)⟩
def aK.l0:Nat→Int→List Int→Int→Option (List Int)
 |0,_,_,_=>none
 |k+1,r,q,h=>if h≥0 then(if 0≤(IntKind.u64.wrap (wrap64 (8*h)))then(if q.length<140737488355328 then(aK.l0 k r (q++ [(shr .u64 r (IntKind.u64.wrap (wrap64 (8*h))))%256]) (wrap64 (h-1)))else(none))else(none))else(some q)
def aK.f(k:Nat)(a0:Int)(h:Int):Option (List Int):=aK.l0 k a0 ([]:List Int) (wrap64 (h-1))
theorem aK.mono_l:∀k,(∀q y z,LeO (aK.l0 k q y z) (aK.l0 (k+1) q y z))
 |0=>fun _ _ _ r h=>by simp [aK.l0]at h
 |k+1=>by
  have D:=aK.mono_l k
  ·intro q y z
   unfold aK.l0
   repeat' first|(with_reducible exact D _ _ _)|(with_reducible exact LeO.refl _)|(with_reducible exact LeO.none _)|(with_reducible refine LeO.ite ?_ ?_)|(with_reducible refine LeO.bind ?_ (fun _=>?_))|exact D _ _ _|exact LeO.none _|refine LeO.ite ?_ ?_|refine LeO.bind ?_ (fun _=>?_)
theorem aK.mono:∀a0 h k,LeO (aK.f k a0 h) (aK.f (k+1) a0 h):=by
 intro a0 h k;have q:=aK.mono_l k;unfold aK.f
 repeat' first|(with_reducible exact q _ _ _)|(with_reducible exact LeO.refl _)|(with_reducible exact LeO.none _)|(with_reducible refine LeO.ite ?_ ?_)|(with_reducible refine LeO.bind ?_ (fun _=>?_))|exact q _ _ _|exact LeO.none _|refine LeO.ite ?_ ?_|refine LeO.bind ?_ (fun _=>?_)
set_option maxHeartbeats 8000000 in
set_option maxRecDepth 100000 in
theorem aK.calls(k:Nat)(a0:Int)(V:Int)(r:List Int)(w:World)(h:aK.f k a0 V=some r):
 Calls Tryz.prog 147 #[.int .u64 a0, .int .i64 V] w fun e J=>∃v0_:Value,e= .returned (v0_)∧Kd.R (Kd.int .u8) 5 J w.heap.size (fun _=>True) v0_ r∧Below w.heap.size w J:=by
 have z:=aa.mk (rr w.heap.size w);have H:(aK.l0 k a0 ([]:List Int) (wrap64 (V-1)))=some r:=h;clear h;have U:=aa.mk H;clear H;go_enter Tryz.func147,Tryz.ntmps147;go_wp2
 go_loopg [5,6] k (fun kq v5 v6 J=>∃(y:List Int) (q:Int),v6= .int .i64 q∧aa (aK.l0 kq a0 y q=some r)∧aa (kq≤k)∧aa (Kd.R (Kd.int .u8) 5 J w.heap.size (fun _=>True) v5 y)∧aa (Below w.heap.size w J))
 case atStart=>exact⟨(([]:List Int)),(wrap64 (V-1)),rfl,U,⟨rA _⟩,⟨by exact Kd.R_nil _ _ _ _ _⟩,⟨z.out⟩⟩
 case round=>
  clear U;obtain⟨y,q,rfl,Y,HK1,Z,z⟩:=hrel;cases gk with
  |zero=>exact absurd Y.out (by simp [aK.l0])
  |succ X=>
   have H:=Y.out;clear Y;simp only [aK.l0]at H;by_cases c3:q≥0
   ·rw [rp c3]at H
    have c3b0:decide (0≤q)=true:=ru c3;clear c3;obtain⟨D,hji4⟩:∃j_:Int,(IntKind.u64.wrap (wrap64 (8*q)))=j_:=⟨_,rfl⟩;replace H:(if 0≤(D)then(if y.length<140737488355328 then(aK.l0 X a0 (y++ [(shr .u64 a0 (D))%256]) (wrap64 (q-1)))else(none))else(none))=some r:=by(rw [hji4]at H;exact H)
    by_cases c5:0≤(D)
    ·rw [rp c5]at H
     have c5b0:=rF c5;clear c5;obtain⟨G,hji6⟩:∃j_:Int,(shr .u64 a0 (D))=j_:=⟨_,rfl⟩;replace H:(if y.length<140737488355328 then(aK.l0 X a0 (y++ [(G)%256]) (wrap64 (q-1)))else(none))=some r:=by(rw [hji6]at H;exact H)
     have hji6_:(a0/2^min (D).toNat 64)=G:=hji6;by_cases c7:y.length<140737488355328
     ·rw [rp c7]at H
      have LMc7:=aa.mk c7;clear c7;obtain⟨y165,am⟩:∃y_:List Int,y_=(y++ [(G)%256]):=⟨_,rfl⟩;replace H:(aK.l0 X a0 y165 (wrap64 (q-1)))=some r:=by(rw [am];with_reducible exact H)
      have Ny165:=aa.mk am;clear am;have U:=aa.mk H;clear H;go_wp2_with (((with_reducible refine aZ (b:= .append) (xs:= #[.tmp 13, .tmp 20]) rfl ?_);at_builtin;refine Kd.R_append (Kd.int .u8) (w0:=w) w.heap.size rfl (.tmp 13) (.tmp 20) 66 5 (.int .u8 0) 1 rfl Tryz.underlying66 b8 rfl (by decide) (by omega) u5 y ((G)%256) [.int .u8 ((G)%256)] (fun _=>True) (fun _=>False) rfl rfl ?aP (fun _ hk=>hk.elim) ?aF ?aO ?aB ?aS ?aL ?_;(case aP=>exact rfl);(case aB=>exact z.out);(case aF=>exact(fun _ _=>trivial));(case aO=>exact Z.out);(case aS=>exact(ay z.out));(case aL=>have:=LMc7.out;omega);intro v166 w8 ho hb hg hat;rw [←Ny165.out]at ho;replace z:=aa.mk (hb);have HO167:=aa.mk (ho);clear Z;clear ho hb hg hat))
      go_roundg X
      case measure=>have:=HK1.out;omega
      case rel=>exact⟨(y165),(wrap64 (q-1)),rfl,U,⟨by have:=HK1.out;omega⟩,⟨HO167.out⟩,⟨z.out⟩⟩
     ·rw [rq c7]at H
      exact absurd H (by simp)
    ·rw [if_neg c5]at H
     exact absurd H (by simp)
   ·rw [if_neg c3]at H
    have c3b0:decide (0≤q)=false:=rC c3;clear c3;obtain rfl:=rD H;go_wp2;go_ret;exact⟨_,by rfl,by exact Z.out,by exact z.out⟩
mutual
def aU.j0:Nat→Nat→Int→Option (List Int)
 |0,_,_=>none
 |k+1,q,h=>if(FloatKind.f64.format.order q q !=some .eq)=true then(aU.j1 k 9221120237041090560)else(aU.j1 k h)
def aU.j1:Nat→Int→Option (List Int)
 |0,_=>none
 |k+1,h=>if(h/9223372036854775808)=0 then((aK.f k (Go.bits .xor .u64 h 9223372036854775808) 8).bind fun t168=>(some t168))else((aK.f k (Go.bits .xor .u64 18446744073709551615 h) 8).bind fun t171=>(some t171))
end
def aU.f(k:Nat)(a0:Nat):Option (List Int):=if(FloatKind.f64.format.order a0 0==some .eq)=true then(aU.j0 k a0 0)else(aU.j0 k a0 (a0:Int))
theorem aU.mono_l:∀k,(∀q D,LeO (aU.j0 k q D) (aU.j0 (k+1) q D))∧(∀q,LeO (aU.j1 k q) (aU.j1 (k+1) q))
 |0=>⟨fun _ _ r h=>by simp [aU.j0]at h,fun _ r h=>by simp [aU.j1]at h⟩
 |k+1=>by
  obtain⟨y,z⟩:=aU.mono_l k;refine⟨?_,?_⟩
  ·intro q D
   unfold aU.j0
   repeat' first|(with_reducible exact y _ _)|(with_reducible exact z _)|(with_reducible exact aK.mono _ _ _)|(with_reducible exact LeO.refl _)|(with_reducible exact LeO.none _)|(with_reducible refine LeO.ite ?_ ?_)|(with_reducible refine LeO.bind ?_ (fun _=>?_))|exact y _ _|exact z _|exact aK.mono _ _ _|exact LeO.none _|refine LeO.ite ?_ ?_|refine LeO.bind ?_ (fun _=>?_)
  ·intro q
   unfold aU.j1
   repeat' first|(with_reducible exact y _ _)|(with_reducible exact z _)|(with_reducible exact aK.mono _ _ _)|(with_reducible exact LeO.refl _)|(with_reducible exact LeO.none _)|(with_reducible refine LeO.ite ?_ ?_)|(with_reducible refine LeO.bind ?_ (fun _=>?_))|exact y _ _|exact z _|exact aK.mono _ _ _|exact LeO.none _|refine LeO.ite ?_ ?_|refine LeO.bind ?_ (fun _=>?_)
theorem aU.mono:∀a0 k,LeO (aU.f k a0) (aU.f (k+1) a0):=by
 intro a0 k;obtain⟨h,q⟩:=aU.mono_l k;unfold aU.f
 repeat' first|(with_reducible exact h _ _)|(with_reducible exact q _)|(with_reducible exact aK.mono _ _ _)|(with_reducible exact LeO.refl _)|(with_reducible exact LeO.none _)|(with_reducible refine LeO.ite ?_ ?_)|(with_reducible refine LeO.bind ?_ (fun _=>?_))|exact h _ _|exact q _|exact aK.mono _ _ _|exact LeO.none _|refine LeO.ite ?_ ?_|refine LeO.bind ?_ (fun _=>?_)
set_option maxHeartbeats 8000000 in
set_option maxRecDepth 100000 in
theorem aU.calls(k:Nat)(a0:Nat)(r:List Int)(w:World)(h:aU.f k a0=some r):
 Calls Tryz.prog 117 #[.float .f64 a0] w fun e w'=>∃a6:Value,e= .returned (a6)∧Kd.R (Kd.int .u8) 5 w' w.heap.size (fun _=>True) a6 r∧Below w.heap.size w w':=by
 have q:=aa.mk (rr w.heap.size w);have H:(if(FloatKind.f64.format.order a0 0==some .eq)=true then(aU.j0 k a0 0)else(aU.j0 k a0 (a0:Int)))=some r:=h;clear h;have X:=aa.mk H;clear H;go_enter Tryz.func117,Tryz.ntmps117
 go_upto_if 7 with(fail)
 go_cut [3] (fun v3 wc=>∃(z:Nat) (V:Int),v3= .int .u64 V∧aa (aU.j0 z a0 V=some r)∧aa (z≤k)∧aa (Below w.heap.size w wc))
 case first=>
  have H:=X.out;clear X;by_cases c3:(FloatKind.f64.format.order a0 0==some .eq)=true
  ·rw [rp c3]at H
   have Z:(FloatKind.f64.format.order a0 0==some .eq)=true:=c3
   (try(have c3b1:decide (FloatKind.f64.format.order a0 0=some .eq)=true:=by simpa using c3))
   (try(have c3b2:(FloatKind.f64.format.order a0 0==some .eq)=true:=by simpa using c3))
   clear c3
   (rw [Z])
   have D:=aa.mk H;clear H;go_wp2
   go_meet
   case rel=>exact⟨_,(0),rfl,D,⟨by omega⟩,⟨q.out⟩⟩
  ·rw [rq c3]at H
   have Z:(FloatKind.f64.format.order a0 0==some .eq)=false:=by simpa using c3
   (try(have c3b1:decide (FloatKind.f64.format.order a0 0=some .eq)=false:=by simpa using c3))
   (try(have c3b2:(FloatKind.f64.format.order a0 0==some .eq)=false:=by simpa using c3))
   (try(have c3b3:¬(FloatKind.f64.format.order a0 0=some .eq):=by simpa using c3))
   clear c3
   (rw [Z])
   have D:=aa.mk H;clear H;go_wp2
   go_meet
   case rel=>exact⟨_,((a0:Int)),rfl,D,⟨by omega⟩,⟨q.out⟩⟩
 case rest=>
  clear X;obtain⟨z,V,rfl,G,a1,q⟩:=hcut;cases z with
  |zero=>exact absurd G.out (by simp [aU.j0])
  |succ kj1=>
   have H:=G.out;clear G;simp only [aU.j0]at H;have Y:=aa.mk H;clear H
   go_upto_if 10 with(fail)
   go_cut [3] (fun v3 wc=>∃(z:Nat) (y:Int),v3= .int .u64 y∧aa (aU.j1 z y=some r)∧aa (z≤kj1)∧aa (Below w.heap.size w wc))
   case first=>
    have H:=Y.out;clear Y;by_cases c5:(FloatKind.f64.format.order a0 a0 !=some .eq)=true
    ·rw [rp c5]at H
     have am:(FloatKind.f64.format.order a0 a0 !=some .eq)=true:=c5
     (try(have c5b1:decide (FloatKind.f64.format.order a0 a0=some .eq)=false:=by simpa using c5))
     (try(have c5b2:(FloatKind.f64.format.order a0 a0==some .eq)=false:=by simpa using c5))
     (try(have c5b3:¬(FloatKind.f64.format.order a0 a0=some .eq):=by simpa using c5))
     clear c5
     (rw [am])
     have D:=aa.mk H;clear H;go_wp2
     go_meet
     case rel=>exact⟨_,(9221120237041090560),rfl,D,⟨by have:=a1.out;omega⟩,⟨q.out⟩⟩
    ·rw [rq c5]at H
     have am:(FloatKind.f64.format.order a0 a0 !=some .eq)=false:=by simpa using c5
     (try(have c5b1:decide (FloatKind.f64.format.order a0 a0=some .eq)=true:=by simpa using c5))
     (try(have c5b2:(FloatKind.f64.format.order a0 a0==some .eq)=true:=by simpa using c5))
     clear c5
     (rw [am])
     have D:=aa.mk H;clear H;go_wp2
     go_meet
     case rel=>exact⟨_,(V),rfl,D,⟨by have:=a1.out;omega⟩,⟨q.out⟩⟩
   case rest=>
    clear Y;obtain⟨z,y,rfl,G,HJ3,q⟩:=hcut;cases z with
    |zero=>exact absurd G.out (by simp [aU.j1])
    |succ a2=>
     have H:=G.out;clear G;simp only [aU.j1]at H;by_cases c6:(y/9223372036854775808)=0
     ·rw [rp c6]at H
      have c6b0:((y/9223372036854775808)==0)=true:=rI.mpr c6;have c6b1:((y/9223372036854775808) !=0)=false:=rV.mpr c6;clear c6;replace H:=rB.mp H;obtain⟨t168,ap,H⟩:=H;replace H:(some t168)=some r:=H;have A7:=aa.mk ap;clear ap;obtain rfl:=rD H;go_wp2_with ((go_at_call 147;(with_reducible refine(aK.calls a2 (Go.bits .xor .u64 y 9223372036854775808) 8 t168 _ A7.out).mono ?_);rintro e w8 ⟨v169,rfl,U,J⟩;have HO170:=aa.mk (Kd.R_lower U (ay q.out));replace q:=bsO q J;(try clear J);(try clear U)));go_ret;exact⟨_,by rfl,by exact HO170.out,by exact q.out⟩
     ·rw [rq c6]at H
      have c6b0:((y/9223372036854775808)==0)=false:=ry.mpr c6;have c6b1:((y/9223372036854775808) !=0)=true:=rH.mpr c6;replace H:=rB.mp H;obtain⟨t171,av,H⟩:=H;replace H:(some t171)=some r:=H;have A9:=aa.mk av;clear av;obtain rfl:=rD H;go_wp2_with (((with_reducible refine cF (f:=147) rfl ?_);refine ee (some 19) rfl rfl Tryz.func147 (by kernel_rfl) rfl #[.int .u64 (Go.bits .xor .u64 18446744073709551615 y), .int .i64 8] rfl (by(try simp only [List.map_toArray,List.map_cons,List.map_nil]);rfl) ?_;(with_reducible refine(aK.calls a2 (Go.bits .xor .u64 18446744073709551615 y) 8 t171 _ A9.out).mono ?_);rintro e w10 ⟨v172,rfl,U,J⟩;refine⟨_,rfl,?_⟩;have HO173:=aa.mk (Kd.R_lower U (ay q.out));replace q:=bsO q J;(try clear J);(try clear U)));go_ret;exact⟨_,by rfl,by exact HO173.out,by exact q.out⟩
def aW.l0:Nat→ByteArray→List Int→Int→Option (List Int)
 |0,_,_,_=>none
 |k+1,q,r,h=>if h<(q.size:Int)then(if 0≤h then(if r.length<140737488355328 then((some (r++ [bt q h]:List Int)).bind fun y=>(if(bt q h)=0 then(if y.length<140737488355328 then(aW.l0 k q (y++ [255]) (wrap64 (h+1)))else(none))else(aW.l0 k q y (wrap64 (h+1)))))else(none))else(none))else(if r.length<140737488355328 then(some (r++ [0]))else(none))
def aW.f(k:Nat)(a0:ByteArray):Option (List Int):=aW.l0 k a0 ([]:List Int) 0
theorem aW.mono_l:∀k,(∀q y z,LeO (aW.l0 k q y z) (aW.l0 (k+1) q y z))
 |0=>fun _ _ _ r h=>by simp [aW.l0]at h
 |k+1=>by
  have D:=aW.mono_l k
  ·intro q y z
   unfold aW.l0
   repeat' first|(with_reducible exact D _ _ _)|(with_reducible exact LeO.refl _)|(with_reducible exact LeO.none _)|(with_reducible refine LeO.ite ?_ ?_)|(with_reducible refine LeO.bind ?_ (fun _=>?_))|exact D _ _ _|exact LeO.none _|refine LeO.ite ?_ ?_|refine LeO.bind ?_ (fun _=>?_)
theorem aW.mono:∀a0 k,LeO (aW.f k a0) (aW.f (k+1) a0):=by
 intro a0 k;have h:=aW.mono_l k;unfold aW.f
 repeat' first|(with_reducible exact h _ _ _)|(with_reducible exact LeO.refl _)|(with_reducible exact LeO.none _)|(with_reducible refine LeO.ite ?_ ?_)|(with_reducible refine LeO.bind ?_ (fun _=>?_))|exact h _ _ _|exact LeO.none _|refine LeO.ite ?_ ?_|refine LeO.bind ?_ (fun _=>?_)
set_option maxHeartbeats 8000000 in
set_option maxRecDepth 100000 in
theorem aW.calls(k:Nat)(a0:ByteArray)(r:List Int)(w:World)(h:aW.f k a0=some r):
 Calls Tryz.prog 118 #[.string a0] w fun e w'=>∃v0_:Value,e= .returned (v0_)∧Kd.R (Kd.int .u8) 5 w' w.heap.size (fun _=>True) v0_ r∧Below w.heap.size w w':=by
 have y:=aa.mk (rr w.heap.size w);have H:(aW.l0 k a0 ([]:List Int) 0)=some r:=h;clear h;have V:=aa.mk H;clear H;go_enter Tryz.func118,Tryz.ntmps118;go_wp2
 go_loopg [3,4] k (fun kq v3 v4 w'=>∃(D:List Int) (q:Int),v4= .int .i64 q∧aa (aW.l0 kq a0 D q=some r)∧aa (kq≤k)∧aa (Kd.R (Kd.int .u8) 5 w' w.heap.size (fun _=>True) v3 D)∧aa (Below w.heap.size w w'))
 case atStart=>exact⟨(([]:List Int)),(0),rfl,V,⟨rA _⟩,⟨by exact Kd.R_nil _ _ _ _ _⟩,⟨y.out⟩⟩
 case round=>
  clear V;obtain⟨D,q,rfl,HA,HK1,X,y⟩:=hrel;cases gk with
  |zero=>exact absurd HA.out (by simp [aW.l0])
  |succ Y=>
   have H:=HA.out;clear HA;simp only [aW.l0]at H;by_cases c2:q<(a0.size:Int)
   ·rw [rp c2]at H
    have c2b0:decide (q<(a0.size:Int))=true:=ru c2;clear c2;by_cases c3:0≤q
    ·rw [rp c3]at H
     have c3b0:decide (0≤q)=true:=ru c3;clear c3;by_cases c5:D.length<140737488355328
     ·rw [rp c5]at H
      have LMc5:=aa.mk c5;clear c5;obtain⟨U,hy174⟩:∃y_:List Int,y_=(D++ [bt a0 q]):=⟨_,rfl⟩;replace H:(if(bt a0 q)=0 then(if U.length<140737488355328 then(aW.l0 Y a0 (U++ [255]) (wrap64 (q+1)))else(none))else(aW.l0 Y a0 U (wrap64 (q+1))))=some r:=by(have H2_:=(rG _ _).symm.trans H;rw [hy174];with_reducible exact H2_)
      have Ny174:=aa.mk hy174;clear hy174;by_cases c7:(bt a0 q)=0
      ·rw [rp c7]at H
       have c7b0:((bt a0 q)==0)=true:=rI.mpr c7;clear c7;by_cases c8:U.length<140737488355328
       ·rw [rp c8]at H
        have LMc8:=aa.mk c8;clear c8;obtain⟨y177,hy177⟩:∃y_:List Int,y_=(U++ [255]):=⟨_,rfl⟩;replace H:(aW.l0 Y a0 y177 (wrap64 (q+1)))=some r:=by(rw [hy177];with_reducible exact H)
        have Ny177:=aa.mk hy177;clear hy177;have V:=aa.mk H;clear H;have Z:0≤(q:Int):=dA;have q4:q<(a0.size:Int):=dA;have hx4:=dy a0 q;replace Z:=rF Z;replace q4:=rF q4;go_wp2_with (first|((with_reducible refine aZ (b:= .append) (xs:= #[.tmp 11, .tmp 15]) rfl ?_);at_builtin;refine Kd.R_append (Kd.int .u8) (w0:=w) w.heap.size rfl (.tmp 11) (.tmp 15) 66 5 (.int .u8 0) 1 rfl Tryz.underlying66 b8 rfl (by decide) (by omega) u3 D (bt a0 q) [.int .u8 (bt a0 q)] (fun _=>True) (fun _=>False) rfl rfl ?aP (fun _ J=>J.elim) ?aF ?aO ?aB ?aS ?aL ?_;(case aP=>exact rfl);(case aB=>exact y.out);(case aF=>exact(fun _ _=>trivial));(case aO=>exact X.out);(case aS=>exact(ay y.out));(case aL=>have:=LMc5.out;omega);intro v175 w9 ho z hg G;rw [←Ny174.out]at ho;replace y:=aa.mk (z);have HO176:=aa.mk (ho);clear X;clear ho z hg G;have p6:0≤(q:Int):=dA;have q6:q<(a0.size:Int):=dA;replace p6:=rF p6;replace q6:=rF q6)|((with_reducible refine aZ (b:= .append) (xs:= #[.tmp 21, .tmp 22]) rfl ?_);at_builtin;refine Kd.R_append (Kd.int .u8) (w0:=w) w.heap.size rfl (.tmp 21) (.tmp 22) 66 5 (.int .u8 0) 1 rfl Tryz.underlying66 b8 rfl (by decide) (by omega) v175 U 255 [.int .u8 255] (fun _=>True) (fun _=>False) rfl rfl ?aP (fun _ J=>J.elim) ?aF ?aO ?aB ?aS ?aL ?_;(case aP=>exact rfl);(case aB=>exact y.out);(case aF=>exact(fun _ _=>trivial));(case aO=>exact HO176.out);(case aS=>exact(ay y.out));(case aL=>have:=LMc8.out;omega);intro v178 w10 ho z hg G;rw [←Ny177.out]at ho;replace y:=aa.mk (z);have HO179:=aa.mk (ho);clear HO176;clear ho z hg G))
        go_roundg Y
        case measure=>have:=HK1.out;omega
        case rel=>exact⟨(y177),(wrap64 (q+1)),rfl,V,⟨by have:=HK1.out;omega⟩,⟨HO179.out⟩,⟨y.out⟩⟩
       ·rw [rq c8]at H
        exact absurd H (by simp)
      ·rw [if_neg c7]at H
       have c7b0:((bt a0 q)==0)=false:=ry.mpr c7;have V:=aa.mk H;clear H;have Z:0≤(q:Int):=dA;have q4:q<(a0.size:Int):=dA;have hx4:=dy a0 q;replace Z:=rF Z;replace q4:=rF q4;go_wp2_with (((with_reducible refine aZ (b:= .append) (xs:= #[.tmp 11, .tmp 15]) rfl ?_);at_builtin;refine Kd.R_append (Kd.int .u8) (w0:=w) w.heap.size rfl (.tmp 11) (.tmp 15) 66 5 (.int .u8 0) 1 rfl Tryz.underlying66 b8 rfl (by decide) (by omega) u3 D (bt a0 q) [.int .u8 (bt a0 q)] (fun _=>True) (fun _=>False) rfl rfl ?aP (fun _ J=>J.elim) ?aF ?aO ?aB ?aS ?aL ?_;(case aP=>exact rfl);(case aB=>exact y.out);(case aF=>exact(fun _ _=>trivial));(case aO=>exact X.out);(case aS=>exact(ay y.out));(case aL=>have:=LMc5.out;omega);intro v175 w11 ho z hg G;rw [←Ny174.out]at ho;replace y:=aa.mk (z);have HO176:=aa.mk (ho);clear X;clear ho z hg G;have p6:0≤(q:Int):=dA;have q6:q<(a0.size:Int):=dA;replace p6:=rF p6;replace q6:=rF q6))
       go_roundg Y
       case measure=>have:=HK1.out;omega
       case rel=>exact⟨(U),(wrap64 (q+1)),rfl,V,⟨by have:=HK1.out;omega⟩,⟨HO176.out⟩,⟨y.out⟩⟩
     ·rw [rq c5]at H
      exact absurd H (by simp)
    ·rw [if_neg c3]at H
     exact absurd H (by simp)
   ·rw [if_neg c2]at H
    have c2b0:decide (q<(a0.size:Int))=false:=rC c2;clear c2;by_cases c12:D.length<140737488355328
    ·rw [rp c12]at H
     have LMc12:=aa.mk c12;clear c12;obtain⟨y180,hy180⟩:∃y_:List Int,y_=(D++ [0]):=⟨_,rfl⟩;replace H:(some y180)=some r:=by(rw [hy180];with_reducible exact H)
     have Ny180:=aa.mk hy180;clear hy180;obtain rfl:=rD H;go_wp2_with (((with_reducible refine aZ (b:= .append) (xs:= #[.tmp 24, .tmp 25]) rfl ?_);at_builtin;refine Kd.R_append (Kd.int .u8) (w0:=w) w.heap.size rfl (.tmp 24) (.tmp 25) 66 5 (.int .u8 0) 1 rfl Tryz.underlying66 b8 rfl (by decide) (by omega) u3 D 0 [.int .u8 0] (fun _=>True) (fun _=>False) rfl rfl ?aP (fun _ J=>J.elim) ?aF ?aO ?aB ?aS ?aL ?_;(case aP=>exact rfl);(case aB=>exact y.out);(case aF=>exact(fun _ _=>trivial));(case aO=>exact X.out);(case aS=>exact(ay y.out));(case aL=>have:=LMc12.out;omega);intro v181 w13 ho z hg G;rw [←Ny180.out]at ho;replace y:=aa.mk (z);have HO182:=aa.mk (ho);clear X;clear ho z hg G));go_ret;exact⟨_,by rfl,by exact HO182.out,by exact y.out⟩
    ·rw [rq c12]at H
     exact absurd H (by simp)
def a7.l0:Nat→Int→Int→Option (Int)
 |0,_,_=>none
 |k+1,h,q=>if h>0 then(a7.l0 k (h/256) (wrap64 (q+1)))else(some q)
def a7.f(k:Nat)(a0:Int):Option (Int):=a7.l0 k a0 0
theorem a7.mono_l:∀k,(∀q y,LeO (a7.l0 k q y) (a7.l0 (k+1) q y))
 |0=>fun _ _ r h=>by simp [a7.l0]at h
 |k+1=>by
  have z:=a7.mono_l k
  ·intro q y
   unfold a7.l0
   repeat' first|(with_reducible exact z _ _)|(with_reducible exact LeO.refl _)|(with_reducible exact LeO.none _)|(with_reducible refine LeO.ite ?_ ?_)|(with_reducible refine LeO.bind ?_ (fun _=>?_))|exact z _ _|exact LeO.none _|refine LeO.ite ?_ ?_|refine LeO.bind ?_ (fun _=>?_)
theorem a7.mono:∀a0 k,LeO (a7.f k a0) (a7.f (k+1) a0):=by
 intro a0 k;have h:=a7.mono_l k;unfold a7.f
 repeat' first|(with_reducible exact h _ _)|(with_reducible exact LeO.refl _)|(with_reducible exact LeO.none _)|(with_reducible refine LeO.ite ?_ ?_)|(with_reducible refine LeO.bind ?_ (fun _=>?_))|exact h _ _|exact LeO.none _|refine LeO.ite ?_ ?_|refine LeO.bind ?_ (fun _=>?_)
set_option maxHeartbeats 8000000 in
set_option maxRecDepth 100000 in
theorem a7.calls(k:Nat)(a0:Int)(r:Int)(w:World)(h:a7.f k a0=some r):
 Calls Tryz.prog 146 #[.int .u64 a0] w fun e G=>e= .returned (.int .i64 r)∧bM w G:=by
 have H:(a7.l0 k a0 0)=some r:=h;clear h;have y:=aa.mk H;clear H;go_enter Tryz.func146,Tryz.ntmps146;go_wp2
 go_loopg [0,3] k (fun U v0 v3 G=>∃(q:Int) (z:Int),v0= .int .u64 q∧v3= .int .i64 z∧aa (a7.l0 U q z=some r)∧aa (U≤k)∧bM w G)
 case atStart=>exact⟨(a0),(0),rfl,rfl,y,⟨rA _⟩,by repeat(exact bM.refl _)⟩
 case round=>
  clear y;obtain⟨q,z,rfl,rfl,D,J,⟨Y,rfl⟩⟩:=hrel;cases gk with
  |zero=>exact absurd D.out (by simp [a7.l0])
  |succ X=>
   have H:=D.out;clear D;simp only [a7.l0]at H;by_cases c2:q>0
   ·rw [rp c2]at H
    have V:decide (0<q)=true:=ru c2;clear c2;have y:=aa.mk H;clear H;go_wp2
    go_roundg X
    case measure=>have:=J.out;omega
    case rel=>exact⟨(q/256),(wrap64 (z+1)),rfl,rfl,y,⟨by have:=J.out;omega⟩,by repeat(first|exact bM.refl _|apply bM.step)⟩
   ·rw [rq c2]at H
    have V:decide (0<q)=false:=rC c2;clear c2;obtain rfl:=rD H;go_wp2;go_ret;exact⟨by rfl,by repeat(first|exact bM.refl _|apply bM.step)⟩
def ba.l0:Nat→Int→List Int→Option (List Int)
 |0,_,_=>none
 |k+1,h,q=>if h>127 then(if q.length<140737488355328 then(ba.l0 k (h/128) (q++ [(Go.bits .or .u64 (Go.bits .and .u64 h 127) 128)%256]))else(none))else(if q.length<140737488355328 then(some (q++ [(h)%256]))else(none))
def ba.f(k:Nat)(a0:Int):Option (List Int):=ba.l0 k a0 ([]:List Int)
set_option maxHeartbeats 8000000 in
set_option maxRecDepth 100000 in
theorem ba.calls(k:Nat)(a0:Int)(r:List Int)(w:World)(h:ba.f k a0=some r):
 Calls Tryz.prog 119 #[.int .u64 a0] w fun e G=>∃v0_:Value,e= .returned (v0_)∧Kd.R (Kd.int .u8) 5 G w.heap.size (fun _=>True) v0_ r∧Below w.heap.size w G:=by
 have y:=aa.mk (rr w.heap.size w);have H:(ba.l0 k a0 ([]:List Int))=some r:=h;clear h;have J:=aa.mk H;clear H;go_enter Tryz.func119,Tryz.ntmps119;go_wp2
 go_loopg [0,3] k (fun kq v0 v3 G=>∃(q:Int) (z:List Int),v0= .int .u64 q∧aa (ba.l0 kq q z=some r)∧aa (kq≤k)∧aa (Kd.R (Kd.int .u8) 5 G w.heap.size (fun _=>True) v3 z)∧aa (Below w.heap.size w G))
 case atStart=>exact⟨(a0),(([]:List Int)),rfl,J,⟨rA _⟩,⟨by exact Kd.R_nil _ _ _ _ _⟩,⟨y.out⟩⟩
 case round=>
  clear J;obtain⟨q,z,rfl,V,HK1,U,y⟩:=hrel;cases gk with
  |zero=>exact absurd V.out (by simp [ba.l0])
  |succ k1=>
   have H:=V.out;clear V;simp only [ba.l0]at H;by_cases c2:q>127
   ·rw [rp c2]at H
    have c2b0:decide (127<q)=true:=ru c2;clear c2;by_cases c3:z.length<140737488355328
    ·rw [rp c3]at H
     have LMc3:=aa.mk c3;clear c3;obtain⟨y183,Z⟩:∃y_:List Int,y_=(z++ [(Go.bits .or .u64 (Go.bits .and .u64 q 127) 128)%256]):=⟨_,rfl⟩;replace H:(ba.l0 k1 (q/128) y183)=some r:=by(rw [Z];with_reducible exact H)
     have Ny183:=aa.mk Z;clear Z;have J:=aa.mk H;clear H;go_wp2_with (((with_reducible refine aZ (b:= .append) (xs:= #[.tmp 6, .tmp 11]) rfl ?_);at_builtin;refine Kd.R_append (Kd.int .u8) (w0:=w) w.heap.size rfl (.tmp 6) (.tmp 11) 66 5 (.int .u8 0) 1 rfl Tryz.underlying66 b8 rfl (by decide) (by omega) u3 z ((Go.bits .or .u64 (Go.bits .and .u64 q 127) 128)%256) [.int .u8 ((Go.bits .or .u64 (Go.bits .and .u64 q 127) 128)%256)] (fun _=>True) (fun _=>False) rfl rfl ?aP (fun _ Y=>Y.elim) ?aF ?aO ?aB ?aS ?aL ?_;(case aP=>exact rfl);(case aB=>exact y.out);(case aF=>exact(fun _ _=>trivial));(case aO=>exact U.out);(case aS=>exact(ay y.out));(case aL=>have:=LMc3.out;omega);intro v184 w4 ho D hg X;rw [←Ny183.out]at ho;replace y:=aa.mk (D);have HO185:=aa.mk (ho);clear U;clear ho D hg X))
     go_roundg k1
     case measure=>have:=HK1.out;omega
     case rel=>exact⟨(q/128),(y183),rfl,J,⟨by have:=HK1.out;omega⟩,⟨HO185.out⟩,⟨y.out⟩⟩
    ·rw [rq c3]at H
     exact absurd H (by simp)
   ·rw [if_neg c2]at H
    have c2b0:decide (127<q)=false:=rC c2;clear c2;by_cases c5:z.length<140737488355328
    ·rw [rp c5]at H
     have LMc5:=aa.mk c5;clear c5;obtain⟨y186,am⟩:∃y_:List Int,y_=(z++ [(q)%256]):=⟨_,rfl⟩;replace H:(some y186)=some r:=by(rw [am];with_reducible exact H)
     have Ny186:=aa.mk am;clear am;obtain rfl:=rD H;go_wp2_with (((with_reducible refine aZ (b:= .append) (xs:= #[.tmp 15, .tmp 18]) rfl ?_);at_builtin;refine Kd.R_append (Kd.int .u8) (w0:=w) w.heap.size rfl (.tmp 15) (.tmp 18) 66 5 (.int .u8 0) 1 rfl Tryz.underlying66 b8 rfl (by decide) (by omega) u3 z ((q)%256) [.int .u8 ((q)%256)] (fun _=>True) (fun _=>False) rfl rfl ?aP (fun _ Y=>Y.elim) ?aF ?aO ?aB ?aS ?aL ?_;(case aP=>exact rfl);(case aB=>exact y.out);(case aF=>exact(fun _ _=>trivial));(case aO=>exact U.out);(case aS=>exact(ay y.out));(case aL=>have:=LMc5.out;omega);intro v187 w6 ho D hg X;rw [←Ny186.out]at ho;replace y:=aa.mk (D);have HO188:=aa.mk (ho);clear U;clear ho D hg X));go_ret;exact⟨_,by rfl,by exact HO188.out,by exact y.out⟩
    ·rw [rq c5]at H
     exact absurd H (by simp)
def cu.f(a0:Int):Option (Int):=if a0≥0 then(some (IntKind.u64.wrap ((IntKind.u64.wrap (a0))*2)))else(some (IntKind.u64.wrap ((IntKind.u64.wrap ((IntKind.u64.wrap (wrap64 (-(wrap64 (a0+1)))))*2))+1)))
set_option maxHeartbeats 8000000 in
set_option maxRecDepth 100000 in
theorem cu.calls(a0:Int)(r:Int)(w:World)(h:cu.f a0=some r):
 Calls Tryz.prog 120 #[.int .i64 a0] w fun e y=>e= .returned (.int .u64 r)∧bM w y:=by
 have H:(if a0≥0 then(some (IntKind.u64.wrap ((IntKind.u64.wrap (a0))*2)))else(some (IntKind.u64.wrap ((IntKind.u64.wrap ((IntKind.u64.wrap (wrap64 (-(wrap64 (a0+1)))))*2))+1))))=some r:=h;clear h;by_cases c2:a0≥0
 ·rw [rp c2]at H
  have q:decide (0≤a0)=true:=ru c2;clear c2;obtain rfl:=rD H;go_enter Tryz.func120,Tryz.ntmps120;go_wp2;go_ret;exact⟨by rfl,by repeat(exact bM.refl _)⟩
 ·rw [rq c2]at H
  have q:decide (0≤a0)=false:=rC c2;clear c2;obtain rfl:=rD H;go_enter Tryz.func120,Tryz.ntmps120;go_wp2;go_ret;exact⟨by rfl,by repeat(exact bM.refl _)⟩
def cL.f(h:Int)(q:Int)(r:Nat)(y:ByteArray):Option (Int):=if h=0 then(some 0)else(if h=1 then(if q=1 then(some 2)else(some 1))else(some 1))
set_option maxHeartbeats 8000000 in
set_option maxRecDepth 100000 in
theorem cL.calls(q:Int)(z:Int)(U:Nat)(V:ByteArray)(r:Int)(w:World)(h:cL.f q z U V=some r):
 Calls Tryz.prog 91 #[.agg #[.int .i64 q, .int .i64 z, .float .f64 U, .string V]] w fun e w'=>e= .returned (.int .u8 r)∧Below w.heap.size w w':=by
 have y:=aa.mk (rr w.heap.size w);have H:(if q=0 then(some 0)else(if q=1 then(if z=1 then(some 2)else(some 1))else(some 1)))=some r:=h;clear h;by_cases c2:q=0
 ·rw [rp c2]at H
  have Y:(q==0)=true:=rI.mpr c2;clear c2;obtain rfl:=rD H;go_enter Tryz.func91,Tryz.ntmps91;go_wp2_with (((with_reducible refine aM (N:=1) rfl ?_);refine aI ?hg (N:=1) ?hd (cs:= #[.int .i64 q, .int .i64 z, .float .f64 U, .string V]) (t:=84) ?hr ?_;(case hd=>rfl);(case hg=>rfl);(case hr=>(go_simp;done));intro X hg w3 G D;have J:=aa.mk G;replace y:=bsO y D;clear D G hg;obtain⟨hcz4_0,hcz4_1,hcz4_2,hcz4_3,hfz4_0,hfz4_1,hfz4_2,hfz4_3⟩:=cz4 J));go_ret;exact⟨by rfl,by exact y.out⟩
 ·rw [rq c2]at H
  have Y:(q==0)=false:=ry.mpr c2;by_cases c5:q=1
  ·rw [rp c5]at H
   have Z:(q==1)=true:=rI.mpr c5;have am:(q !=1)=false:=rV.mpr c5;clear c5;by_cases c6:z=1
   ·rw [rp c6]at H
    have ap:(z==1)=true:=rI.mpr c6;have av:(z !=1)=false:=rV.mpr c6;clear c6;obtain rfl:=rD H;go_enter Tryz.func91,Tryz.ntmps91;go_wp2_with (((with_reducible refine aM (N:=1) rfl ?_);refine aI ?hg (N:=1) ?hd (cs:= #[.int .i64 q, .int .i64 z, .float .f64 U, .string V]) (t:=84) ?hr ?_;(case hd=>rfl);(case hg=>rfl);(case hr=>(go_simp;done));intro X hg w7 G D;have J:=aa.mk G;replace y:=bsO y D;clear D G hg;obtain⟨hcz8_0,hcz8_1,hcz8_2,hcz8_3,hfz8_0,hfz8_1,hfz8_2,hfz8_3⟩:=cz4 J));go_ret;exact⟨by rfl,by exact y.out⟩
   ·rw [rq c6]at H
    have ap:(z==1)=false:=ry.mpr c6;have av:(z !=1)=true:=rH.mpr c6;obtain rfl:=rD H;go_enter Tryz.func91,Tryz.ntmps91;go_wp2_with (((with_reducible refine aM (N:=1) rfl ?_);refine aI ?hg (N:=1) ?hd (cs:= #[.int .i64 q, .int .i64 z, .float .f64 U, .string V]) (t:=84) ?hr ?_;(case hd=>rfl);(case hg=>rfl);(case hr=>(go_simp;done));intro X hg w9 G D;have J:=aa.mk G;replace y:=bsO y D;clear D G hg;obtain⟨hcz10_0,hcz10_1,hcz10_2,hcz10_3,hfz10_0,hfz10_1,hfz10_2,hfz10_3⟩:=cz4 J));go_ret;exact⟨by rfl,by exact y.out⟩
  ·rw [rq c5]at H
   have Z:(q==1)=false:=ry.mpr c5;have am:(q !=1)=true:=rH.mpr c5;obtain rfl:=rD H;go_enter Tryz.func91,Tryz.ntmps91;go_wp2_with (((with_reducible refine aM (N:=1) rfl ?_);refine aI ?hg (N:=1) ?hd (cs:= #[.int .i64 q, .int .i64 z, .float .f64 U, .string V]) (t:=84) ?hr ?_;(case hd=>rfl);(case hg=>rfl);(case hr=>(go_simp;done));intro X hg w11 G D;have J:=aa.mk G;replace y:=bsO y D;clear D G hg;obtain⟨hcz12_0,hcz12_1,hcz12_2,hcz12_3,hfz12_0,hfz12_1,hfz12_2,hfz12_3⟩:=cz4 J));go_ret;exact⟨by rfl,by exact y.out⟩
def bB.l0:Nat→List Int→List (S84)→List (S84)→Int→Option ((List (S84)))
 |0,_,_,_,_=>none
 |k+1,q,r,y,h=>if h<(q.length:Int)then(if 0≤h then(if 0≤(rd q h)then(if(rd q h)<(r.length:Int)then(if y.length<3518437208883 then(bB.l0 k q r (y++ [(⟨(af r (rd q h)).f0,(af r (rd q h)).f1,(af r (rd q h)).f2,(af r (rd q h)).f3⟩:S84)]) (wrap64 (h+1)))else(none))else(none))else(none))else(none))else(some y)
def bB.f(k:Nat)(l0:List Int)(l1:List (S84)):Option ((List (S84))):=bB.l0 k l0 l1 ([]:List (S84)) 0
set_option maxHeartbeats 8000000 in
set_option maxRecDepth 100000 in
theorem bB.calls(k:Nat)(A0:Option Addr)(c0:Nat)(l0:List Int)(A1:Option Addr)(c1:Nat)(l1:List (S84))(r:List (S84))(w:World)(hr0:Kd.C (Kd.int .i64) w A0 l0.length l0)(hc0:l0.length≤c0)(hr1:Kd.C k84 w A1 l1.length l1)(hc1:l1.length≤c1)(h:bB.f k l0 l1=some r):
 Calls Tryz.prog 65 #[.slice A0 l0.length c0, .slice A1 l1.length c1] w fun e D=>∃v0_:Value,e= .returned (v0_)∧Kd.R k84 84 D w.heap.size (fun _=>True) v0_ r∧Below w.heap.size w D:=by
 have HR0:=aa.mk hr0;clear hr0 hc0;have HR1:=aa.mk hr1;clear hr1 hc1;have y:=aa.mk (rr w.heap.size w);have H:(bB.l0 k l0 l1 ([]:List (S84)) 0)=some r:=h;clear h;have G:=aa.mk H;clear H;go_enter Tryz.func65,Tryz.ntmps65;go_wp2
 go_loopg [5,6] k (fun kq v5 v6 D=>∃(z:List (S84)) (q:Int),v6= .int .i64 q∧aa (bB.l0 kq l0 l1 z q=some r)∧aa (kq≤k)∧aa (Kd.R k84 84 D w.heap.size (fun _=>True) v5 z)∧aa (Below w.heap.size w D))
 case atStart=>exact⟨(([]:List (S84))),(0),rfl,G,⟨rA _⟩,⟨by exact Kd.R_nil _ _ _ _ _⟩,⟨y.out⟩⟩
 case round=>
  clear G;obtain⟨z,q,rfl,J,HK1,U,y⟩:=hrel;cases gk with
  |zero=>exact absurd J.out (by simp [bB.l0])
  |succ k1=>
   have H:=J.out;clear J;simp only [bB.l0]at H;by_cases c3:q<(l0.length:Int)
   ·rw [rp c3]at H
    have c3b0:decide (q<(l0.length:Int))=true:=ru c3;clear c3;by_cases c4:0≤q
    ·rw [rp c4]at H
     have c4b0:decide (0≤q)=true:=ru c4;clear c4;by_cases c5:0≤(rd l0 q)
     ·rw [rp c5]at H
      have c5b0:decide (0≤(rd l0 q))=true:=ru c5;clear c5;by_cases c6:(rd l0 q)<(l1.length:Int)
      ·rw [rp c6]at H
       have c6b0:decide ((rd l0 q)<(l1.length:Int))=true:=ru c6;clear c6;by_cases c7:z.length<3518437208883
       ·rw [rp c7]at H
        have LMc7:=aa.mk c7;clear c7;obtain⟨y192,V⟩:∃y_:List (S84),y_=(z++ [(⟨(af l1 (rd l0 q)).f0,(af l1 (rd l0 q)).f1,(af l1 (rd l0 q)).f2,(af l1 (rd l0 q)).f3⟩:S84)]):=⟨_,rfl⟩;replace H:(bB.l0 k1 l0 l1 y192 (wrap64 (q+1)))=some r:=by(rw [V];with_reducible exact H)
        have Ny192:=aa.mk V;clear V;have G:=aa.mk H;clear H;have X:0≤(q:Int):=dA;have Z:q<(l0.length:Int):=dA;obtain⟨ad190,e190,hx190_0⟩:=Kd.at_int HR0.out q X Z;cases e190;replace hx190_0:=mvO y hx190_0;replace X:=rF X;replace Z:=rF Z;have Y:0≤((rd l0 q):Int):=dA;have am:(rd l0 q)<(l1.length:Int):=dA;obtain⟨ad191,e191,hx191_0,hx191_1,hx191_2,hx191_3⟩:=dn HR1.out (rd l0 q) Y am;cases e191;replace hx191_0:=mvO y hx191_0;replace hx191_1:=mvO y hx191_1;replace hx191_2:=mvO y hx191_2;replace hx191_3:=mvO y hx191_3;replace Y:=rF Y;replace am:=rF am;go_wp2_with (((with_reducible refine aZ (b:= .append) (xs:= #[.tmp 13, .tmp 21]) rfl ?_);at_builtin;refine Kd.R_append k84 (w0:=w) w.heap.size rfl (.tmp 13) (.tmp 21) 50 84 (.agg #[(.int .i64 0),(.int .i64 0),(.float .f64 0),(.string ⟨#[]⟩)]) 40 rfl Tryz.underlying50 ic rfl (by decide) (by omega) u5 z (⟨(af l1 (rd l0 q)).f0,(af l1 (rd l0 q)).f1,(af l1 (rd l0 q)).f2,(af l1 (rd l0 q)).f3⟩:S84) [.int .i64 ((af l1 (rd l0 q)).f0), .int .i64 ((af l1 (rd l0 q)).f1), .float .f64 ((af l1 (rd l0 q)).f2), .string ((af l1 (rd l0 q)).f3)] (fun _=>True) (fun _=>False) rfl rfl ?aP (fun _ hk=>hk.elim) ?aF ?aO ?aB ?aS ?aL ?_;(case aP=>exact fo _ _ _ (⟨(af l1 (rd l0 q)).f0,(af l1 (rd l0 q)).f1,(af l1 (rd l0 q)).f2,(af l1 (rd l0 q)).f3⟩:S84));(case aB=>exact y.out);(case aF=>exact(fun _ _=>trivial));(case aO=>exact U.out);(case aS=>exact(ay y.out));(case aL=>have:=LMc7.out;omega);intro v193 w8 ho hb hg hat;rw [←Ny192.out]at ho;replace y:=aa.mk (hb);have HO194:=aa.mk (ho);clear U;clear ho hb hg hat))
        go_roundg k1
        case measure=>have:=HK1.out;omega
        case rel=>exact⟨(y192),(wrap64 (q+1)),rfl,G,⟨by have:=HK1.out;omega⟩,⟨HO194.out⟩,⟨y.out⟩⟩
       ·rw [rq c7]at H
        exact absurd H (by simp)
      ·rw [if_neg c6]at H
       exact absurd H (by simp)
     ·rw [if_neg c5]at H
      exact absurd H (by simp)
    ·rw [if_neg c4]at H
     exact absurd H (by simp)
   ·rw [if_neg c3]at H
    have c3b0:decide (q<(l0.length:Int))=false:=rC c3;clear c3;obtain rfl:=rD H;go_wp2;go_ret;exact⟨_,by rfl,by exact U.out,by exact y.out⟩
def aT.l0:Nat→Int→List Int→Option (ByteArray)
 |0,_,_=>none
 |k+1,h,q=>if h≥128 then(if q.length<140737488355328 then(aT.l0 k (IntKind.u64.wrap (Int.tdiv h 128)) (q++ [(IntKind.u64.wrap (128+(Int.tmod h 128)))%256]))else(none))else(if q.length<140737488355328 then(some (strOfNums (q++ [(h)%256])))else(none))
def aT.f(k:Nat)(a0:Int):Option (ByteArray):=aT.l0 k a0 (([]:List Int))
set_option maxHeartbeats 8000000 in
set_option maxRecDepth 100000 in
theorem aT.calls(k:Nat)(a0:Int)(r:ByteArray)(w:World)(h:aT.f k a0=some r):
 Calls Tryz.prog 42 #[.int .u64 a0] w fun e X=>e= .returned (.string r)∧Below w.heap.size w X:=by
 have y:=aa.mk (rr w.heap.size w);have H:(aT.l0 k a0 (([]:List Int)))=some r:=h;clear h;obtain⟨y195,ap⟩:∃J:List Int,J=(([]:List Int)):=⟨_,rfl⟩;replace H:(aT.l0 k a0 y195)=some r:=by(rw [ap];with_reducible exact H)
 have Ny195:=aa.mk ap;clear ap;have U:=aa.mk H;clear H;go_enter Tryz.func42,Tryz.ntmps42;go_wp2_with (((with_reducible refine aM (N:=4) rfl ?_);refine Kd.R_lit (Kd.int .u8) _ 5 ?hg (N:=4) ?hd (xs:=([]:List Int)) (inner:=[]) (ok:=fun _=>True) (okp:=fun _=>True) ?hr ?hp (fun _ G=>G) trivial (rr _ _) (rA _) (by simp) ?_;(case hd=>rfl);(case hg=>rfl);(case hr=>(go_simp;done));(case hp=>exact(dg.none _ _));intro v196 w2 am D hg_ hnew_;clear hg_ hnew_;(rw [←Ny195.out]at am);have HO197:=aa.mk (Kd.R_lower am (ay y.out));replace y:=bsO y D;clear D am))
 go_loopg [0,3] k (fun kq v0 v3 X=>∃(q:Int) (z:List Int),v0= .int .u64 q∧aa (aT.l0 kq q z=some r)∧aa (kq≤k)∧aa (Kd.R (Kd.int .u8) 5 X w.heap.size (fun _=>True) v3 z)∧aa (Below w.heap.size w X))
 case atStart=>exact⟨(a0),(y195),rfl,U,⟨rA _⟩,⟨HO197.out⟩,⟨y.out⟩⟩
 case round=>
  clear U;obtain⟨q,z,rfl,Y,a2,V,y⟩:=hrel;cases gk with
  |zero=>exact absurd Y.out (by simp [aT.l0])
  |succ k1=>
   have H:=Y.out;clear Y;simp only [aT.l0]at H;by_cases c4:q≥128
   ·rw [rp c4]at H
    have c4b0:decide (128≤q)=true:=ru c4;clear c4;by_cases c5:z.length<140737488355328
    ·rw [rp c5]at H
     have LMc5:=aa.mk c5;clear c5;obtain⟨y198,av⟩:∃J:List Int,J=(z++ [(IntKind.u64.wrap (128+(Int.tmod q 128)))%256]):=⟨_,rfl⟩;replace H:(aT.l0 k1 (IntKind.u64.wrap (Int.tdiv q 128)) y198)=some r:=by(rw [av];with_reducible exact H)
     have Ny198:=aa.mk av;clear av;have U:=aa.mk H;clear H;go_wp2_with (((with_reducible refine aZ (b:= .append) (xs:= #[.tmp 7, .tmp 12]) rfl ?_);at_builtin;refine Kd.R_append (Kd.int .u8) (w0:=w) w.heap.size rfl (.tmp 7) (.tmp 12) 66 5 (.int .u8 0) 1 rfl Tryz.underlying66 b8 rfl (by decide) (by omega) u3 z ((IntKind.u64.wrap (128+(Int.tmod q 128)))%256) [.int .u8 ((IntKind.u64.wrap (128+(Int.tmod q 128)))%256)] (fun _=>True) (fun _=>False) rfl rfl ?aP (fun _ G=>G.elim) ?aF ?aO ?aB ?aS ?aL ?_;(case aP=>exact rfl);(case aB=>exact y.out);(case aF=>exact(fun _ _=>trivial));(case aO=>exact V.out);(case aS=>exact(ay y.out));(case aL=>have:=LMc5.out;omega);intro v199 w6 ho D hg Z;rw [←Ny198.out]at ho;replace y:=aa.mk (D);have HO200:=aa.mk (ho);clear V;clear ho D hg Z))
     go_roundg k1
     case measure=>have:=a2.out;omega
     case rel=>exact⟨(IntKind.u64.wrap (Int.tdiv q 128)),(y198),rfl,U,⟨by have:=a2.out;omega⟩,⟨HO200.out⟩,⟨y.out⟩⟩
    ·rw [rq c5]at H
     exact absurd H (by simp)
   ·rw [if_neg c4]at H
    have c4b0:decide (128≤q)=false:=rC c4;clear c4;by_cases c7:z.length<140737488355328
    ·rw [rp c7]at H
     have LMc7:=aa.mk c7;clear c7;obtain⟨y201,a1⟩:∃J:List Int,J=(z++ [(q)%256]):=⟨_,rfl⟩;replace H:(some (strOfNums y201))=some r:=by(rw [a1];with_reducible exact H)
     have Ny201:=aa.mk a1;clear a1;obtain rfl:=rD H;go_wp2_with (((with_reducible refine aZ (b:= .append) (xs:= #[.tmp 16, .tmp 19]) rfl ?_);at_builtin;refine Kd.R_append (Kd.int .u8) (w0:=w) w.heap.size rfl (.tmp 16) (.tmp 19) 66 5 (.int .u8 0) 1 rfl Tryz.underlying66 b8 rfl (by decide) (by omega) u3 z ((q)%256) [.int .u8 ((q)%256)] (fun _=>True) (fun _=>False) rfl rfl ?aP (fun _ G=>G.elim) ?aF ?aO ?aB ?aS ?aL ?_;(case aP=>exact rfl);(case aB=>exact y.out);(case aF=>exact(fun _ _=>trivial));(case aO=>exact V.out);(case aS=>exact(ay y.out));(case aL=>have:=LMc7.out;omega);intro v202 w8 ho D hg Z;rw [←Ny201.out]at ho;replace y:=aa.mk (D);have HO203:=aa.mk (ho);clear V;clear ho D hg Z;have hcv9:=dk (P:=Tryz.prog) Tryz.underlying66 Tryz.underlying5 Tryz.underlying9 (Kd.own_of_R HO203.out)));go_ret;exact⟨by rfl,by exact y.out⟩
    ·rw [rq c7]at H
     exact absurd H (by simp)
def bc.l0:Nat→Int→Int→List Int→Int→Option (ByteArray)
 |0,_,_,_,_=>none
 |k+1,q,r,h,y=>if y<r then(if h.length<140737488355328 then(bc.l0 k (IntKind.u64.wrap (Int.tdiv q 256)) r (h++ [(Int.tmod q 256)%256]) (wrap64 (y+1)))else(none))else(some (strOfNums h))
def bc.f(k:Nat)(a0:Int)(h:Int):Option (ByteArray):=bc.l0 k a0 h (([]:List Int)) 0
set_option maxHeartbeats 8000000 in
set_option maxRecDepth 100000 in
theorem bc.calls(k:Nat)(a0:Int)(y:Int)(r:ByteArray)(w:World)(h:bc.f k a0 y=some r):
 Calls Tryz.prog 22 #[.int .u64 a0, .int .i64 y] w fun e V=>e= .returned (.string r)∧Below w.heap.size w V:=by
 have q:=aa.mk (rr w.heap.size w);have H:(bc.l0 k a0 y (([]:List Int)) 0)=some r:=h;clear h;obtain⟨y204,ap⟩:∃y_:List Int,y_=(([]:List Int)):=⟨_,rfl⟩;replace H:(bc.l0 k a0 y y204 0)=some r:=by(rw [ap];with_reducible exact H)
 have Ny204:=aa.mk ap;clear ap;have U:=aa.mk H;clear H;go_enter Tryz.func22,Tryz.ntmps22;go_wp2_with (((with_reducible refine aM (N:=7) rfl ?_);refine Kd.R_lit (Kd.int .u8) _ 5 ?hg (N:=7) ?hd (xs:=([]:List Int)) (inner:=[]) (ok:=fun _=>True) (okp:=fun _=>True) ?hr ?hp (fun _ Z=>Z) trivial (rr _ _) (rA _) (by simp) ?_;(case hd=>rfl);(case hg=>rfl);(case hr=>(go_simp;done));(case hp=>exact(dg.none _ _));intro v205 w3 am J hg_ hnew_;clear hg_ hnew_;(rw [←Ny204.out]at am);have HO206:=aa.mk (Kd.R_lower am (ay q.out));replace q:=bsO q J;clear J am))
 go_loopg [0,5,6] k (fun kq v0 v5 v6 V=>∃(z:Int) (G:List Int) (D:Int),v0= .int .u64 z∧v6= .int .i64 D∧aa (bc.l0 kq z y G D=some r)∧aa (kq≤k)∧aa (Kd.R (Kd.int .u8) 5 V w.heap.size (fun _=>True) v5 G)∧aa (Below w.heap.size w V))
 case atStart=>exact⟨(a0),(y204),(0),rfl,rfl,U,⟨rA _⟩,⟨HO206.out⟩,⟨q.out⟩⟩
 case round=>
  clear U;obtain⟨z,G,D,rfl,rfl,X,HK1,Y,q⟩:=hrel;cases gk with
  |zero=>exact absurd X.out (by simp [bc.l0])
  |succ k1=>
   have H:=X.out;clear X;simp only [bc.l0]at H;by_cases c5:D<y
   ·rw [rp c5]at H
    have c5b0:decide (D<y)=true:=ru c5;clear c5;by_cases c6:G.length<140737488355328
    ·rw [rp c6]at H
     have LMc6:=aa.mk c6;clear c6;obtain⟨y207,av⟩:∃y_:List Int,y_=(G++ [(Int.tmod z 256)%256]):=⟨_,rfl⟩;replace H:(bc.l0 k1 (IntKind.u64.wrap (Int.tdiv z 256)) y y207 (wrap64 (D+1)))=some r:=by(rw [av];with_reducible exact H)
     have Ny207:=aa.mk av;clear av;have U:=aa.mk H;clear H;go_wp2_with (((with_reducible refine aZ (b:= .append) (xs:= #[.tmp 13, .tmp 17]) rfl ?_);at_builtin;refine Kd.R_append (Kd.int .u8) (w0:=w) w.heap.size rfl (.tmp 13) (.tmp 17) 66 5 (.int .u8 0) 1 rfl Tryz.underlying66 b8 rfl (by decide) (by omega) u5 G ((Int.tmod z 256)%256) [.int .u8 ((Int.tmod z 256)%256)] (fun _=>True) (fun _=>False) rfl rfl ?aP (fun _ Z=>Z.elim) ?aF ?aO ?aB ?aS ?aL ?_;(case aP=>exact rfl);(case aB=>exact q.out);(case aF=>exact(fun _ _=>trivial));(case aO=>exact Y.out);(case aS=>exact(ay q.out));(case aL=>have:=LMc6.out;omega);intro v208 w7 ho J hg hat;rw [←Ny207.out]at ho;replace q:=aa.mk (J);have HO209:=aa.mk (ho);clear Y;clear ho J hg hat))
     go_roundg k1
     case measure=>have:=HK1.out;omega
     case rel=>exact⟨(IntKind.u64.wrap (Int.tdiv z 256)),(y207),(wrap64 (D+1)),rfl,rfl,U,⟨by have:=HK1.out;omega⟩,⟨HO209.out⟩,⟨q.out⟩⟩
    ·rw [rq c6]at H
     exact absurd H (by simp)
   ·rw [if_neg c5]at H
    have c5b0:decide (D<y)=false:=rC c5;clear c5;obtain rfl:=rD H;have hcv8:=dk (P:=Tryz.prog) Tryz.underlying66 Tryz.underlying5 Tryz.underlying9 (Kd.own_of_R Y.out);go_wp2;go_ret;exact⟨by rfl,by exact q.out⟩
mutual
def bb.l0:Nat→ByteArray→Int→Int→Option (Int)
 |0,_,_,_=>none
 |k+1,q,r,h=>if h<(q.size:Int)then(if 0≤h then(bb.l1 k q (Go.bits .xor .u32 r ((bt q h)%4294967296)) h 0)else(none))else(some (Go.bits .xor .u32 r 4294967295))
def bb.l1:Nat→ByteArray→Int→Int→Int→Option (Int)
 |0,_,_,_,_=>none
 |k+1,q,r,h,y=>if y<8 then(if(Int.tmod r 2)=1 then(bb.l1 k q (Go.bits .xor .u32 ((Int.tdiv r 2)%4294967296) 2197175160) h (wrap64 (y+1)))else(bb.l1 k q ((Int.tdiv r 2)%4294967296) h (wrap64 (y+1))))else(bb.l0 k q r (wrap64 (h+1)))
end
def bb.f(k:Nat)(a0:ByteArray):Option (Int):=bb.l0 k a0 4294967295 0
set_option maxHeartbeats 8000000 in
set_option maxRecDepth 100000 in
theorem bb.calls(k:Nat)(a0:ByteArray)(r:Int)(w:World)(h:bb.f k a0=some r):
 Calls Tryz.prog 23 #[.string a0] w fun e X=>e= .returned (.int .u32 r)∧bM w X:=by
 have H:(bb.l0 k a0 4294967295 0)=some r:=h;clear h;have y:=aa.mk H;clear H;go_enter Tryz.func23,Tryz.ntmps23;go_wp2
 go_loopg [3,4] k (fun V v3 v4 X=>∃(Z:Int) (q:Int),v3= .int .u32 Z∧v4= .int .i64 q∧aa (bb.l0 V a0 Z q=some r)∧aa (V≤k)∧bM w X)
 case atStart=>exact⟨(4294967295),(0),(by first|rfl|(simp;done)|(simp [*];done)),(by first|rfl|(simp;done)|(simp [*];done)),y,⟨rA _⟩,by repeat(first|exact bM.refl _|apply bM.step)⟩
 case round=>
  clear y;obtain⟨Z,q,rfl,rfl,G,J,⟨m1,rfl⟩⟩:=hrel;cases gk with
  |zero=>exact absurd G.out (by simp [bb.l0])
  |succ k1=>
   have H:=G.out;clear G;simp only [bb.l0]at H;by_cases c2:q<(a0.size:Int)
   ·rw [rp c2]at H
    have c2b0:decide (q<(a0.size:Int))=true:=ru c2;clear c2;by_cases c3:0≤q
    ·rw [rp c3]at H
     have c3b0:decide (0≤q)=true:=ru c3;clear c3;have y:=aa.mk H;clear H;have Y:0≤(q:Int):=rQ (by first|(with_reducible assumption)|assumption);have q4:q<(a0.size:Int):=rQ (by first|(with_reducible assumption)|assumption);have hx4:=dy a0 q;replace Y:=rF Y;replace q4:=rF q4;go_wp2
     go_loopg [3,5] k1 (fun V v3 v5 X=>∃(z:Int) (D:Int),v3= .int .u32 z∧v5= .int .i64 D∧aa (bb.l1 V a0 z q D=some r)∧aa (V≤k1)∧bM w X)
     case atStart=>exact⟨(Go.bits .xor .u32 Z ((bt a0 q)%4294967296)),(0),(by first|rfl|(simp;done)|(simp [*];done)),(by first|rfl|(simp;done)|(simp [*];done)),y,⟨rA _⟩,by repeat(first|exact bM.refl _|apply bM.step)⟩
     case round=>
      clear y;try clear c2
      try clear c2b0
      try clear p2
      try clear c3
      try clear c3b0
      try clear Y
      try clear q4
      try clear hx4
      try clear Y
      try clear q4
      obtain⟨z,D,rfl,rfl,G,U,⟨m2,rfl⟩⟩:=hrel;cases gk with
      |zero=>exact absurd G.out (by simp [bb.l1])
      |succ k2=>
       have H:=G.out;clear G;simp only [bb.l1]at H;by_cases c5:D<8
       ·rw [rp c5]at H
        have c5b0:decide (D<8)=true:=ru c5;clear c5;by_cases c6:(Int.tmod z 2)=1
        ·rw [rp c6]at H
         have c6b0:((Int.tmod z 2)==1)=true:=rI.mpr c6;have c6b1:((Int.tmod z 2) !=1)=false:=rV.mpr c6;clear c6;have y:=aa.mk H;clear H;go_wp2
         go_roundg k2
         case measure=>have:=J.out;have:=U.out;omega
         case rel=>exact⟨(Go.bits .xor .u32 ((Int.tdiv z 2)%4294967296) 2197175160),(wrap64 (D+1)),(by first|rfl|(simp;done)|(simp [*];done)),(by first|rfl|(simp;done)|(simp [*];done)),y,⟨by have:=J.out;have:=U.out;omega⟩,by repeat(first|exact bM.refl _|apply bM.step)⟩
        ·rw [rq c6]at H
         have c6b0:((Int.tmod z 2)==1)=false:=ry.mpr c6;have c6b1:((Int.tmod z 2) !=1)=true:=rH.mpr c6;have y:=aa.mk H;clear H;go_wp2
         go_roundg k2
         case measure=>have:=J.out;have:=U.out;omega
         case rel=>exact⟨((Int.tdiv z 2)%4294967296),(wrap64 (D+1)),(by first|rfl|(simp;done)|(simp [*];done)),(by first|rfl|(simp;done)|(simp [*];done)),y,⟨by have:=J.out;have:=U.out;omega⟩,by repeat(first|exact bM.refl _|apply bM.step)⟩
       ·rw [rq c5]at H
        have c5b0:decide (D<8)=false:=rC c5;clear c5;have y:=aa.mk H;clear H;go_wp2
        go_roundg k2
        case measure=>have:=J.out;have:=U.out;omega
        case rel=>exact⟨(z),(wrap64 (q+1)),(by first|rfl|(simp;done)|(simp [*];done)),(by first|rfl|(simp;done)|(simp [*];done)),y,⟨by have:=J.out;have:=U.out;omega⟩,by repeat(first|exact bM.refl _|apply bM.step)⟩
    ·rw [rq c3]at H
     exact absurd H (by simp)
   ·rw [if_neg c2]at H
    have c2b0:decide (q<(a0.size:Int))=false:=rC c2;clear c2;obtain rfl:=rD H;go_wp2;go_ret;exact⟨by first|rfl|(simp;done)|(simp [*];done),by repeat(first|exact bM.refl _|apply bM.step)⟩
end Go.Proofs.YtiphlfpainoeiaaGreatDoor.L
namespace Go.Proofs.YtiphlfpainoeiaaGreatDoor.L
open Go.RowKit Go.Proofs.YtiphlfpainoeiaaGreatDoorW.PrintWords Go.Proofs.YtiphlfpainoeiaaGreatDoorW.PrintLast Go.Proofs.YtiphlfpainoeiaaGreatDoorW.PrintMore
def vL(n:Nat):List Int:=if n<128 then [(n:Int)]else((n%128+128:Nat):Int)::vL (n/128)
termination_by n
decreasing_by omega
theorem dO{n:Nat}(h:n<128):vL n= [(n:Int)]:=by rw [vL,rp h]
theorem g_{n:Nat}(h:¬n<128):vL n=((n%128+128:Nat):Int)::vL (n/128):=by rw [vL,rq h]
theorem o9(n:Nat)(h:n<256):n|||128=n%128+128:=by
 have:=(show∀m:Fin 256,m.val|||128=m.val%128+128 by decide+kernel) ⟨n,h⟩;exact this
theorem lG(n:Nat):Go.bits .or .u8 ((n:Int)%256) 128=((n%128+128:Nat):Int):=by
 have:=u8_or (n%256) 128 (by omega) (by decide);have h:((n%256:Nat):Int)=(n:Int)%256:=by omega
 rw [h]at this;rw [show(128:Int)=((128:Nat):Int)from rfl,this,o9 _ (by omega)];omega
theorem iV(d:Nat):∀(n k:Nat) (q:List Int),n<128^(d+1)→d<k→q.length+d<140737488355328→bz.l0 k q n=some (q++vL n):=by
 induction d with
 |zero=>
  intro n k q hn r y;obtain⟨k,rfl⟩:∃m,k=m+1:=⟨k-1,by omega⟩;simp only [bz.l0];rw [rq (by omega),rp (by omega),dO (by omega)];rw [show(n:Int)%256=n from by omega]
 |succ d z=>
  intro n k q hn r y;obtain⟨k,rfl⟩:∃m,k=m+1:=⟨k-1,by omega⟩;simp only [bz.l0];by_cases h:n<128
  ·rw [rq (by omega),rp (by omega),dO h]
   rw [show(n:Int)%256=n from by omega]
  ·rw [rp (by omega),rp (by omega),lG,g_ h]
   rw [show(n:Int)/128=((n/128:Nat):Int)from by omega];rw [z (n/128) k _ (by rw [r_]at hn;omega) (by omega) (by simp;omega)];simp
theorem hU(d:Nat):∀(n k:Nat) (q:List Int),n<128^(d+1)→d<k→q.length+d<140737488355328→bo.l0 k n q=some (strOfNums (q++vL n)):=by
 induction d with
 |zero=>
  intro n k D hn r y;obtain⟨k,rfl⟩:∃m,k=m+1:=⟨k-1,by omega⟩;simp only [bo.l0];rw [rq (by omega),rp (by omega),dO (by omega)];rw [show(n:Int)%256=n from by omega]
 |succ d z=>
  intro n k D hn r y;obtain⟨k,rfl⟩:∃m,k=m+1:=⟨k-1,by omega⟩;simp only [bo.l0];by_cases h:n<128
  ·rw [rq (by omega),rp (by omega),dO h]
   rw [show(n:Int)%256=n from by omega]
  ·rw [rp (by omega),rp (by omega),lG,g_ h]
   rw [show(n:Int)/128=((n/128:Nat):Int)from by omega];rw [z (n/128) k _ (by rw [r_]at hn;omega) (by omega) (by simp;omega)];simp
theorem nV(n:Nat)(hn:n<2^64):(Go.bits .or .u64 (Go.bits .and .u64 (n:Int) 127) 128)%256=((n%128+128:Nat):Int):=by
 rw [show(127:Int)=((127:Nat):Int)from rfl,u64_and n 127 hn (by decide),show(127:Nat)=2^7-1 from rfl,Nat.and_two_pow_sub_one_eq_mod];rw [show(128:Int)=((128:Nat):Int)from rfl,u64_or (n%2^7) 128 (by omega) (by decide),o9 _ (by omega)];omega
theorem gJ(d:Nat):∀(n k:Nat) (q:List Int),n<128^(d+1)→n<2^64→d<k→q.length+d<140737488355328→ba.l0 k n q=some (q++vL n):=by
 induction d with
 |zero=>
  intro n k G hn r y z;obtain⟨k,rfl⟩:∃m,k=m+1:=⟨k-1,by omega⟩;simp only [ba.l0];rw [rq (by omega),rp (by omega),dO (by omega)];rw [show(n:Int)%256=n from by omega]
 |succ d D=>
  intro n k G hn r y z;obtain⟨k,rfl⟩:∃m,k=m+1:=⟨k-1,by omega⟩;simp only [ba.l0];by_cases h:n<128
  ·rw [rq (by omega),rp (by omega),dO h]
   rw [show(n:Int)%256=n from by omega]
  ·rw [rp (by omega),rp (by omega),nV n r,g_ h]
   rw [show(n:Int)/128=((n/128:Nat):Int)from by omega];rw [D (n/128) k _ (by rw [r_]at hn;omega) (by omega) (by omega) (by simp;omega)];simp
theorem gH(d:Nat):∀(n k:Nat) (q:List Int),n<128^(d+1)→n<2^64→d<k→q.length+d<140737488355328→aT.l0 k n q=some (strOfNums (q++vL n)):=by
 induction d with
 |zero=>
  intro n k U hn z D G;obtain⟨k,rfl⟩:∃m,k=m+1:=⟨k-1,by omega⟩;simp only [aT.l0];rw [rq (by omega),rp (by omega),dO (by omega)];rw [show(n:Int)%256=n from by omega]
 |succ d J=>
  intro n k U hn z D G;obtain⟨k,rfl⟩:∃m,k=m+1:=⟨k-1,by omega⟩;simp only [aT.l0];by_cases h:n<128
  ·rw [rq (by omega),rp (by omega),dO h]
   rw [show(n:Int)%256=n from by omega]
  ·rw [rp (by omega),rp (by omega),g_ h]
   have r:(IntKind.u64.wrap (128+(Int.tmod (n:Int) 128)))%256=((n%128+128:Nat):Int):=(by rw [bP,su (by omega)];omega);have y:IntKind.u64.wrap (Int.tdiv (n:Int) 128)=((n/128:Nat):Int):=(by rw [bP,sf (by omega)];omega);rw [r,y];rw [J (n/128) k _ (by rw [r_]at hn;omega) (by omega) (by omega) (by simp;omega)];simp
theorem pj(d:Nat):∀n,n<128^(d+1)→(vL n).length≤d+1:=by
 induction d with
 |zero=>intro n hn;rw [dO (by omega)];simp
 |succ d q=>
  intro n hn;by_cases h:n<128;·rw [dO h];simp
  ·rw [g_ h,List.length_cons]
   have:=q (n/128) (by rw [r_]at hn;omega);omega
end Go.Proofs.YtiphlfpainoeiaaGreatDoor.L
namespace Go.Proofs.YtiphlfpainoeiaaGreatDoor
open Go.RowKit Go.Proofs.YtiphlfpainoeiaaGreatDoorW.PrintWords L
def jw(s:ByteArray):Bool:=Lib.validD s.data.toList
def bw(v:S84):Prop:=v.f0<0∨5<v.f0∨(v.f0=1∧v.f1≠0∧v.f1≠1)∨(v.f0≠1∧v.f0≠2∧v.f1≠0)∨(v.f0≠3∧v.f2≠0)∨(v.f0≠4∧v.f0≠5∧v.f3.toList≠ [])∨(v.f0=4∧jw v.f3=false)
instance (v:S84):Decidable (bw v):=by unfold bw;infer_instance
def aX(v:S84):Int:=if bw v then 10 else if 65536<v.f3.size then 3 else 0
theorem lN(s:ByteArray)(w:World)(q:GT w)(y:s.size≤9223372036854775807):Calls Tryz.prog 110 #[.string s] w fun e h=>e= .returned (.bool (jw s))∧Below w.heap.size w h:=by
 refine(Tryz.utf8_ValidString s w y q.tabs).mono ?_;rintro e h ⟨rfl,r⟩;exact⟨rfl,r⟩
theorem eM(s:ByteArray)(b:Bool)(r:jw s=b)(w:World)(h:GT w)(q:s.size≤9223372036854775807):Calls Tryz.prog 110 #[.string s] w fun e y=>e= .returned (.bool b)∧Below w.heap.size w y:=by
 subst r;exact lN s w h q
theorem bj{W w1:World}(q:Below W.heap.size W w1):(∀b o,b<W.heap.size→w1.cell? ⟨b,o,none⟩=W.cell? ⟨b,o,none⟩)∧(∀b o,b<W.heap.size→w1.frozen? ⟨b,o,none⟩=W.frozen? ⟨b,o,none⟩):=
 ⟨fun b o h=>q.cell (p:=⟨b,o,none⟩) h,fun b o h=>q.frozen (p:=⟨b,o,none⟩) h⟩
theorem dC{s:ByteArray}(h:s.toList= []):s.size=0:=by rw [Lib.size_eq,←sk,h];rfl
set_option maxHeartbeats 4000000 in
theorem bR(k n:Int)(b:Nat)(s:ByteArray)(w:World)(hG:GT w)(hs:s.size≤9223372036854775807):
 Calls Tryz.prog 81 #[.agg #[.int .i64 k, .int .i64 n, .float .f64 b, .string s]] w fun e w'=>e= .returned (.int .i64 (aX ⟨k,n,b,s⟩))∧Below w.heap.size w w':=by
 have HG:=rn hG;clear hG;by_cases D:k<0
 ·skip
  have h1:aX ⟨k,n,b,s⟩=10:=by simp [aX,bw,D]
  rw [h1];clear h1;have h2:decide (k<0)=true:=by simpa using D
  have h3:(k==4)=false:=by rw [ry];omega
  have h4:(k==5)=false:=by rw [ry];omega
  have h6:(k !=4)=true:=by rw [rH];omega
  have h7:(k !=5)=true:=by rw [rH];omega
  go_enter Tryz.func81,Tryz.ntmps81;go_wp2;go_ret;exact⟨rfl,(rr _ _).alloc (rA _) _⟩
 by_cases G:5<k
 ·skip
  have h1:aX ⟨k,n,b,s⟩=10:=by simp [aX,bw,G]
  rw [h1];clear h1;have h2:decide (5<k)=true:=by simpa using G
  have h3:(k==4)=false:=by rw [ry];omega
  have h4:(k==5)=false:=by rw [ry];omega
  have h6:(k !=4)=true:=by rw [rH];omega
  have h7:(k !=5)=true:=by rw [rH];omega
  go_enter Tryz.func81,Tryz.ntmps81;go_wp2;go_ret;exact⟨rfl,(rr _ _).alloc (rA _) _⟩
 obtain rfl|rfl|rfl|rfl|rfl|rfl:k=0∨k=1∨k=2∨k=3∨k=4∨k=5:=by omega
 ·clear D G
  by_cases hn:n=0
  ·subst hn
   by_cases q:b=0
   ·subst q
    by_cases h:s.toList= []
    ·have r:s.size=0:=dC h
     have z:¬65536<s.size:=(by omega);have h1:aX ⟨0,0,0,s⟩=0:=(by simp [aX,bw,h,z]);rw [h1];clear h1;have y:s.toList.isEmpty=true:=(by simp [h]);clear r;go_enter Tryz.func81,Tryz.ntmps81;go_wp2;go_ret;exact⟨rfl,(rr _ _).alloc (rA _) _⟩
    ·skip
     have h1:aX ⟨0,0,0,s⟩=10:=(by simp [aX,bw,h]);rw [h1];clear h1;have y:s.toList.isEmpty=false:=(by simpa using h);go_enter Tryz.func81,Tryz.ntmps81;go_wp2;go_ret;exact⟨rfl,(rr _ _).alloc (rA _) _⟩
   ·skip
    have h1:aX ⟨0,0,b,s⟩=10:=(by simp [aX,bw,q]);rw [h1];clear h1;have V:(((b:Nat):Int)==0)=false:=(by rw [ry];omega);have X:(((b:Nat):Int) !=0)=true:=(by rw [rH];omega);go_enter Tryz.func81,Tryz.ntmps81;go_wp2;go_ret;exact⟨rfl,(rr _ _).alloc (rA _) _⟩
  have h1:aX ⟨0,n,b,s⟩=10:=by simp [aX,bw,hn]
  rw [h1];clear h1;have am:(n==0)=false:=by rw [ry];exact hn
  have ap:(n !=0)=true:=by rw [rH];exact hn
  go_enter Tryz.func81,Tryz.ntmps81;go_wp2;go_ret;exact⟨rfl,(rr _ _).alloc (rA _) _⟩
 ·clear D G
  by_cases hn:n=0
  ·subst hn
   by_cases q:b=0
   ·subst q
    by_cases h:s.toList= []
    ·have r:s.size=0:=dC h
     have z:¬65536<s.size:=(by omega);have h1:aX ⟨1,0,0,s⟩=0:=(by simp [aX,bw,h,z]);rw [h1];clear h1;have y:s.toList.isEmpty=true:=(by simp [h]);clear r;go_enter Tryz.func81,Tryz.ntmps81;go_wp2;go_ret;exact⟨rfl,(rr _ _).alloc (rA _) _⟩
    ·skip
     have h1:aX ⟨1,0,0,s⟩=10:=(by simp [aX,bw,h]);rw [h1];clear h1;have y:s.toList.isEmpty=false:=(by simpa using h);go_enter Tryz.func81,Tryz.ntmps81;go_wp2;go_ret;exact⟨rfl,(rr _ _).alloc (rA _) _⟩
   ·skip
    have h1:aX ⟨1,0,b,s⟩=10:=(by simp [aX,bw,q]);rw [h1];clear h1;have V:(((b:Nat):Int)==0)=false:=(by rw [ry];omega);have X:(((b:Nat):Int) !=0)=true:=(by rw [rH];omega);go_enter Tryz.func81,Tryz.ntmps81;go_wp2;go_ret;exact⟨rfl,(rr _ _).alloc (rA _) _⟩
  by_cases Z:n=1
  ·subst Z
   by_cases q:b=0
   ·subst q
    by_cases h:s.toList= []
    ·have r:s.size=0:=dC h
     have z:¬65536<s.size:=(by omega);have h1:aX ⟨1,1,0,s⟩=0:=(by simp [aX,bw,h,z]);rw [h1];clear h1;have y:s.toList.isEmpty=true:=(by simp [h]);clear r;go_enter Tryz.func81,Tryz.ntmps81;go_wp2;go_ret;exact⟨rfl,(rr _ _).alloc (rA _) _⟩
    ·skip
     have h1:aX ⟨1,1,0,s⟩=10:=(by simp [aX,bw,h]);rw [h1];clear h1;have y:s.toList.isEmpty=false:=(by simpa using h);go_enter Tryz.func81,Tryz.ntmps81;go_wp2;go_ret;exact⟨rfl,(rr _ _).alloc (rA _) _⟩
   ·skip
    have h1:aX ⟨1,1,b,s⟩=10:=(by simp [aX,bw,q]);rw [h1];clear h1;have V:(((b:Nat):Int)==0)=false:=(by rw [ry];omega);have X:(((b:Nat):Int) !=0)=true:=(by rw [rH];omega);go_enter Tryz.func81,Tryz.ntmps81;go_wp2;go_ret;exact⟨rfl,(rr _ _).alloc (rA _) _⟩
  have h1:aX ⟨1,n,b,s⟩=10:=by simp [aX,bw,hn,Z]
  rw [h1];clear h1;have am:(n==0)=false:=by rw [ry];exact hn
  have ap:(n !=0)=true:=by rw [rH];exact hn
  have hm1:(n==1)=false:=by rw [ry];exact Z
  have hm2:(n !=1)=true:=by rw [rH];exact Z
  go_enter Tryz.func81,Tryz.ntmps81;go_wp2;go_ret;exact⟨rfl,(rr _ _).alloc (rA _) _⟩
 ·clear D G
  by_cases q:b=0
  ·subst q
   by_cases h:s.toList= []
   ·have r:s.size=0:=dC h
    have z:¬65536<s.size:=(by omega);have h1:aX ⟨2,n,0,s⟩=0:=(by simp [aX,bw,h,z]);rw [h1];clear h1;have y:s.toList.isEmpty=true:=(by simp [h]);clear r;go_enter Tryz.func81,Tryz.ntmps81;go_wp2;go_ret;exact⟨rfl,(rr _ _).alloc (rA _) _⟩
   ·skip
    have h1:aX ⟨2,n,0,s⟩=10:=(by simp [aX,bw,h]);rw [h1];clear h1;have y:s.toList.isEmpty=false:=(by simpa using h);go_enter Tryz.func81,Tryz.ntmps81;go_wp2;go_ret;exact⟨rfl,(rr _ _).alloc (rA _) _⟩
  ·skip
   have h1:aX ⟨2,n,b,s⟩=10:=(by simp [aX,bw,q]);rw [h1];clear h1;have V:(((b:Nat):Int)==0)=false:=(by rw [ry];omega);have X:(((b:Nat):Int) !=0)=true:=(by rw [rH];omega);go_enter Tryz.func81,Tryz.ntmps81;go_wp2;go_ret;exact⟨rfl,(rr _ _).alloc (rA _) _⟩
 ·clear D G
  by_cases hn:n=0
  ·subst hn
   by_cases h:s.toList= []
   ·have r:s.size=0:=dC h
    have z:¬65536<s.size:=(by omega);have h1:aX ⟨3,0,b,s⟩=0:=(by simp [aX,bw,h,z]);rw [h1];clear h1;have y:s.toList.isEmpty=true:=(by simp [h]);clear r;go_enter Tryz.func81,Tryz.ntmps81;go_wp2;go_ret;exact⟨rfl,(rr _ _).alloc (rA _) _⟩
   ·skip
    have h1:aX ⟨3,0,b,s⟩=10:=(by simp [aX,bw,h]);rw [h1];clear h1;have y:s.toList.isEmpty=false:=(by simpa using h);go_enter Tryz.func81,Tryz.ntmps81;go_wp2;go_ret;exact⟨rfl,(rr _ _).alloc (rA _) _⟩
  have h1:aX ⟨3,n,b,s⟩=10:=by simp [aX,bw,hn]
  rw [h1];clear h1;have am:(n==0)=false:=by rw [ry];exact hn
  have ap:(n !=0)=true:=by rw [rH];exact hn
  go_enter Tryz.func81,Tryz.ntmps81;go_wp2;go_ret;exact⟨rfl,(rr _ _).alloc (rA _) _⟩
 ·clear D G
  by_cases hn:n=0
  ·subst hn
   by_cases q:b=0
   ·subst q
    cases U:jw s with
    |false=>
     have h1:aX ⟨4,0,0,s⟩=10:=(by simp [aX,bw,U]);rw [h1];clear h1;have Y:=rn U;clear U;go_enter Tryz.func81,Tryz.ntmps81;go_wp2_with (go_at_call 110;refine(eM _ _ Y.out _ (HG.out.now ((rr _ _).alloc (rA _) _)) hs).mono ?_;rintro e w' ⟨rfl,J⟩;obtain⟨hc,hf⟩:=bj J);go_ret;exact⟨rfl,((rr _ _).alloc (rA _) _).trans (J.mono (by simp))⟩
    |true=>
     have Y:=rn U;by_cases r:65536<s.size
     ·skip
      have h1:aX ⟨4,0,0,s⟩=3:=(by simp [aX,bw,U,r]);rw [h1];clear h1;clear U;go_enter Tryz.func81,Tryz.ntmps81;go_wp2_with (go_at_call 110;refine(eM _ _ Y.out _ (HG.out.now ((rr _ _).alloc (rA _) _)) hs).mono ?_;rintro e w' ⟨rfl,J⟩;obtain⟨hc,hf⟩:=bj J);go_ret;exact⟨rfl,((rr _ _).alloc (rA _) _).trans (J.mono (by simp))⟩
     ·skip
      have h1:aX ⟨4,0,0,s⟩=0:=(by simp [aX,bw,U,r]);rw [h1];clear h1;clear U;go_enter Tryz.func81,Tryz.ntmps81;go_wp2_with (go_at_call 110;refine(eM _ _ Y.out _ (HG.out.now ((rr _ _).alloc (rA _) _)) hs).mono ?_;rintro e w' ⟨rfl,J⟩;obtain⟨hc,hf⟩:=bj J);go_ret;exact⟨rfl,((rr _ _).alloc (rA _) _).trans (J.mono (by simp))⟩
   ·skip
    have h1:aX ⟨4,0,b,s⟩=10:=(by simp [aX,bw,q]);rw [h1];clear h1;have V:(((b:Nat):Int)==0)=false:=(by rw [ry];omega);have X:(((b:Nat):Int) !=0)=true:=(by rw [rH];omega);go_enter Tryz.func81,Tryz.ntmps81;go_wp2;go_ret;exact⟨rfl,(rr _ _).alloc (rA _) _⟩
  have h1:aX ⟨4,n,b,s⟩=10:=by simp [aX,bw,hn]
  rw [h1];clear h1;have am:(n==0)=false:=by rw [ry];exact hn
  have ap:(n !=0)=true:=by rw [rH];exact hn
  go_enter Tryz.func81,Tryz.ntmps81;go_wp2;go_ret;exact⟨rfl,(rr _ _).alloc (rA _) _⟩
 ·clear D G
  by_cases hn:n=0
  ·subst hn
   by_cases q:b=0
   ·subst q
    by_cases r:65536<s.size
    ·skip
     have h1:aX ⟨5,0,0,s⟩=3:=(by simp [aX,bw,r]);rw [h1];clear h1;go_enter Tryz.func81,Tryz.ntmps81;go_wp2;go_ret;exact⟨rfl,(rr _ _).alloc (rA _) _⟩
    ·skip
     have h1:aX ⟨5,0,0,s⟩=0:=(by simp [aX,bw,r]);rw [h1];clear h1;go_enter Tryz.func81,Tryz.ntmps81;go_wp2;go_ret;exact⟨rfl,(rr _ _).alloc (rA _) _⟩
   ·skip
    have h1:aX ⟨5,0,b,s⟩=10:=(by simp [aX,bw,q]);rw [h1];clear h1;have V:(((b:Nat):Int)==0)=false:=(by rw [ry];omega);have X:(((b:Nat):Int) !=0)=true:=(by rw [rH];omega);go_enter Tryz.func81,Tryz.ntmps81;go_wp2;go_ret;exact⟨rfl,(rr _ _).alloc (rA _) _⟩
  have h1:aX ⟨5,n,b,s⟩=10:=by simp [aX,bw,hn]
  rw [h1];clear h1;have am:(n==0)=false:=by rw [ry];exact hn
  have ap:(n !=0)=true:=by rw [rH];exact hn
  go_enter Tryz.func81,Tryz.ntmps81;go_wp2;go_ret;exact⟨rfl,(rr _ _).alloc (rA _) _⟩
set_option maxHeartbeats 4000000 in
theorem jE(k n:Int)(b:Nat)(s:ByteArray)(w:World)(hG:GT w)(hs:s.size≤9223372036854775807):
 Calls Tryz.prog 88 #[.agg #[.int .i64 k, .int .i64 n, .float .f64 b, .string s]] w fun e w'=>e= .returned (.int .i64 (aX ⟨k,n,b,s⟩))∧Below w.heap.size w w':=by
 have HG:=rn hG;clear hG;by_cases D:k<0
 ·skip
  have h1:aX ⟨k,n,b,s⟩=10:=by simp [aX,bw,D]
  rw [h1];clear h1;have h2:decide (k<0)=true:=by simpa using D
  have h3:(k==4)=false:=by rw [ry];omega
  have h4:(k==5)=false:=by rw [ry];omega
  have h6:(k !=4)=true:=by rw [rH];omega
  have h7:(k !=5)=true:=by rw [rH];omega
  go_enter Tryz.func88,Tryz.ntmps88;go_wp2;go_ret;exact⟨rfl,(rr _ _).alloc (rA _) _⟩
 by_cases G:5<k
 ·skip
  have h1:aX ⟨k,n,b,s⟩=10:=by simp [aX,bw,G]
  rw [h1];clear h1;have h2:decide (5<k)=true:=by simpa using G
  have h3:(k==4)=false:=by rw [ry];omega
  have h4:(k==5)=false:=by rw [ry];omega
  have h6:(k !=4)=true:=by rw [rH];omega
  have h7:(k !=5)=true:=by rw [rH];omega
  go_enter Tryz.func88,Tryz.ntmps88;go_wp2;go_ret;exact⟨rfl,(rr _ _).alloc (rA _) _⟩
 obtain rfl|rfl|rfl|rfl|rfl|rfl:k=0∨k=1∨k=2∨k=3∨k=4∨k=5:=by omega
 ·clear D G
  by_cases hn:n=0
  ·subst hn
   by_cases q:b=0
   ·subst q
    by_cases h:s.toList= []
    ·have r:s.size=0:=dC h
     have z:¬65536<s.size:=(by omega);have h1:aX ⟨0,0,0,s⟩=0:=(by simp [aX,bw,h,z]);rw [h1];clear h1;have y:s.toList.isEmpty=true:=(by simp [h]);clear r;go_enter Tryz.func88,Tryz.ntmps88;go_wp2;go_ret;exact⟨rfl,(rr _ _).alloc (rA _) _⟩
    ·skip
     have h1:aX ⟨0,0,0,s⟩=10:=(by simp [aX,bw,h]);rw [h1];clear h1;have y:s.toList.isEmpty=false:=(by simpa using h);go_enter Tryz.func88,Tryz.ntmps88;go_wp2;go_ret;exact⟨rfl,(rr _ _).alloc (rA _) _⟩
   ·skip
    have h1:aX ⟨0,0,b,s⟩=10:=(by simp [aX,bw,q]);rw [h1];clear h1;have V:(((b:Nat):Int)==0)=false:=(by rw [ry];omega);have X:(((b:Nat):Int) !=0)=true:=(by rw [rH];omega);go_enter Tryz.func88,Tryz.ntmps88;go_wp2;go_ret;exact⟨rfl,(rr _ _).alloc (rA _) _⟩
  have h1:aX ⟨0,n,b,s⟩=10:=by simp [aX,bw,hn]
  rw [h1];clear h1;have am:(n==0)=false:=by rw [ry];exact hn
  have ap:(n !=0)=true:=by rw [rH];exact hn
  go_enter Tryz.func88,Tryz.ntmps88;go_wp2;go_ret;exact⟨rfl,(rr _ _).alloc (rA _) _⟩
 ·clear D G
  by_cases hn:n=0
  ·subst hn
   by_cases q:b=0
   ·subst q
    by_cases h:s.toList= []
    ·have r:s.size=0:=dC h
     have z:¬65536<s.size:=(by omega);have h1:aX ⟨1,0,0,s⟩=0:=(by simp [aX,bw,h,z]);rw [h1];clear h1;have y:s.toList.isEmpty=true:=(by simp [h]);clear r;go_enter Tryz.func88,Tryz.ntmps88;go_wp2;go_ret;exact⟨rfl,(rr _ _).alloc (rA _) _⟩
    ·skip
     have h1:aX ⟨1,0,0,s⟩=10:=(by simp [aX,bw,h]);rw [h1];clear h1;have y:s.toList.isEmpty=false:=(by simpa using h);go_enter Tryz.func88,Tryz.ntmps88;go_wp2;go_ret;exact⟨rfl,(rr _ _).alloc (rA _) _⟩
   ·skip
    have h1:aX ⟨1,0,b,s⟩=10:=(by simp [aX,bw,q]);rw [h1];clear h1;have V:(((b:Nat):Int)==0)=false:=(by rw [ry];omega);have X:(((b:Nat):Int) !=0)=true:=(by rw [rH];omega);go_enter Tryz.func88,Tryz.ntmps88;go_wp2;go_ret;exact⟨rfl,(rr _ _).alloc (rA _) _⟩
  by_cases Z:n=1
  ·subst Z
   by_cases q:b=0
   ·subst q
    by_cases h:s.toList= []
    ·have r:s.size=0:=dC h
     have z:¬65536<s.size:=(by omega);have h1:aX ⟨1,1,0,s⟩=0:=(by simp [aX,bw,h,z]);rw [h1];clear h1;have y:s.toList.isEmpty=true:=(by simp [h]);clear r;go_enter Tryz.func88,Tryz.ntmps88;go_wp2;go_ret;exact⟨rfl,(rr _ _).alloc (rA _) _⟩
    ·skip
     have h1:aX ⟨1,1,0,s⟩=10:=(by simp [aX,bw,h]);rw [h1];clear h1;have y:s.toList.isEmpty=false:=(by simpa using h);go_enter Tryz.func88,Tryz.ntmps88;go_wp2;go_ret;exact⟨rfl,(rr _ _).alloc (rA _) _⟩
   ·skip
    have h1:aX ⟨1,1,b,s⟩=10:=(by simp [aX,bw,q]);rw [h1];clear h1;have V:(((b:Nat):Int)==0)=false:=(by rw [ry];omega);have X:(((b:Nat):Int) !=0)=true:=(by rw [rH];omega);go_enter Tryz.func88,Tryz.ntmps88;go_wp2;go_ret;exact⟨rfl,(rr _ _).alloc (rA _) _⟩
  have h1:aX ⟨1,n,b,s⟩=10:=by simp [aX,bw,hn,Z]
  rw [h1];clear h1;have am:(n==0)=false:=by rw [ry];exact hn
  have ap:(n !=0)=true:=by rw [rH];exact hn
  have hm1:(n==1)=false:=by rw [ry];exact Z
  have hm2:(n !=1)=true:=by rw [rH];exact Z
  go_enter Tryz.func88,Tryz.ntmps88;go_wp2;go_ret;exact⟨rfl,(rr _ _).alloc (rA _) _⟩
 ·clear D G
  by_cases q:b=0
  ·subst q
   by_cases h:s.toList= []
   ·have r:s.size=0:=dC h
    have z:¬65536<s.size:=(by omega);have h1:aX ⟨2,n,0,s⟩=0:=(by simp [aX,bw,h,z]);rw [h1];clear h1;have y:s.toList.isEmpty=true:=(by simp [h]);clear r;go_enter Tryz.func88,Tryz.ntmps88;go_wp2;go_ret;exact⟨rfl,(rr _ _).alloc (rA _) _⟩
   ·skip
    have h1:aX ⟨2,n,0,s⟩=10:=(by simp [aX,bw,h]);rw [h1];clear h1;have y:s.toList.isEmpty=false:=(by simpa using h);go_enter Tryz.func88,Tryz.ntmps88;go_wp2;go_ret;exact⟨rfl,(rr _ _).alloc (rA _) _⟩
  ·skip
   have h1:aX ⟨2,n,b,s⟩=10:=(by simp [aX,bw,q]);rw [h1];clear h1;have V:(((b:Nat):Int)==0)=false:=(by rw [ry];omega);have X:(((b:Nat):Int) !=0)=true:=(by rw [rH];omega);go_enter Tryz.func88,Tryz.ntmps88;go_wp2;go_ret;exact⟨rfl,(rr _ _).alloc (rA _) _⟩
 ·clear D G
  by_cases hn:n=0
  ·subst hn
   by_cases h:s.toList= []
   ·have r:s.size=0:=dC h
    have z:¬65536<s.size:=(by omega);have h1:aX ⟨3,0,b,s⟩=0:=(by simp [aX,bw,h,z]);rw [h1];clear h1;have y:s.toList.isEmpty=true:=(by simp [h]);clear r;go_enter Tryz.func88,Tryz.ntmps88;go_wp2;go_ret;exact⟨rfl,(rr _ _).alloc (rA _) _⟩
   ·skip
    have h1:aX ⟨3,0,b,s⟩=10:=(by simp [aX,bw,h]);rw [h1];clear h1;have y:s.toList.isEmpty=false:=(by simpa using h);go_enter Tryz.func88,Tryz.ntmps88;go_wp2;go_ret;exact⟨rfl,(rr _ _).alloc (rA _) _⟩
  have h1:aX ⟨3,n,b,s⟩=10:=by simp [aX,bw,hn]
  rw [h1];clear h1;have am:(n==0)=false:=by rw [ry];exact hn
  have ap:(n !=0)=true:=by rw [rH];exact hn
  go_enter Tryz.func88,Tryz.ntmps88;go_wp2;go_ret;exact⟨rfl,(rr _ _).alloc (rA _) _⟩
 ·clear D G
  by_cases hn:n=0
  ·subst hn
   by_cases q:b=0
   ·subst q
    cases U:jw s with
    |false=>
     have h1:aX ⟨4,0,0,s⟩=10:=(by simp [aX,bw,U]);rw [h1];clear h1;have Y:=rn U;clear U;go_enter Tryz.func88,Tryz.ntmps88;go_wp2_with (go_at_call 110;refine(eM _ _ Y.out _ (HG.out.now ((rr _ _).alloc (rA _) _)) hs).mono ?_;rintro e w' ⟨rfl,J⟩;obtain⟨hc,hf⟩:=bj J);go_ret;exact⟨rfl,((rr _ _).alloc (rA _) _).trans (J.mono (by simp))⟩
    |true=>
     have Y:=rn U;by_cases r:65536<s.size
     ·skip
      have h1:aX ⟨4,0,0,s⟩=3:=(by simp [aX,bw,U,r]);rw [h1];clear h1;clear U;go_enter Tryz.func88,Tryz.ntmps88;go_wp2_with (go_at_call 110;refine(eM _ _ Y.out _ (HG.out.now ((rr _ _).alloc (rA _) _)) hs).mono ?_;rintro e w' ⟨rfl,J⟩;obtain⟨hc,hf⟩:=bj J);go_ret;exact⟨rfl,((rr _ _).alloc (rA _) _).trans (J.mono (by simp))⟩
     ·skip
      have h1:aX ⟨4,0,0,s⟩=0:=(by simp [aX,bw,U,r]);rw [h1];clear h1;clear U;go_enter Tryz.func88,Tryz.ntmps88;go_wp2_with (go_at_call 110;refine(eM _ _ Y.out _ (HG.out.now ((rr _ _).alloc (rA _) _)) hs).mono ?_;rintro e w' ⟨rfl,J⟩;obtain⟨hc,hf⟩:=bj J);go_ret;exact⟨rfl,((rr _ _).alloc (rA _) _).trans (J.mono (by simp))⟩
   ·skip
    have h1:aX ⟨4,0,b,s⟩=10:=(by simp [aX,bw,q]);rw [h1];clear h1;have V:(((b:Nat):Int)==0)=false:=(by rw [ry];omega);have X:(((b:Nat):Int) !=0)=true:=(by rw [rH];omega);go_enter Tryz.func88,Tryz.ntmps88;go_wp2;go_ret;exact⟨rfl,(rr _ _).alloc (rA _) _⟩
  have h1:aX ⟨4,n,b,s⟩=10:=by simp [aX,bw,hn]
  rw [h1];clear h1;have am:(n==0)=false:=by rw [ry];exact hn
  have ap:(n !=0)=true:=by rw [rH];exact hn
  go_enter Tryz.func88,Tryz.ntmps88;go_wp2;go_ret;exact⟨rfl,(rr _ _).alloc (rA _) _⟩
 ·clear D G
  by_cases hn:n=0
  ·subst hn
   by_cases q:b=0
   ·subst q
    by_cases r:65536<s.size
    ·skip
     have h1:aX ⟨5,0,0,s⟩=3:=(by simp [aX,bw,r]);rw [h1];clear h1;go_enter Tryz.func88,Tryz.ntmps88;go_wp2;go_ret;exact⟨rfl,(rr _ _).alloc (rA _) _⟩
    ·skip
     have h1:aX ⟨5,0,0,s⟩=0:=(by simp [aX,bw,r]);rw [h1];clear h1;go_enter Tryz.func88,Tryz.ntmps88;go_wp2;go_ret;exact⟨rfl,(rr _ _).alloc (rA _) _⟩
   ·skip
    have h1:aX ⟨5,0,b,s⟩=10:=(by simp [aX,bw,q]);rw [h1];clear h1;have V:(((b:Nat):Int)==0)=false:=(by rw [ry];omega);have X:(((b:Nat):Int) !=0)=true:=(by rw [rH];omega);go_enter Tryz.func88,Tryz.ntmps88;go_wp2;go_ret;exact⟨rfl,(rr _ _).alloc (rA _) _⟩
  have h1:aX ⟨5,n,b,s⟩=10:=by simp [aX,bw,hn]
  rw [h1];clear h1;have am:(n==0)=false:=by rw [ry];exact hn
  have ap:(n !=0)=true:=by rw [rH];exact hn
  go_enter Tryz.func88,Tryz.ntmps88;go_wp2;go_ret;exact⟨rfl,(rr _ _).alloc (rA _) _⟩
end Go.Proofs.YtiphlfpainoeiaaGreatDoor
