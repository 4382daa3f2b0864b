/- Part 6 of the proof of RedoRecords (conditions: none beyond the statement's own guards). -/
import Derived.Test.YtiphlfpainoeiaaGreatDoorQ05
set_option linter.unusedVariables false
set_option linter.unusedSimpArgs false
namespace Go.Proofs.YtiphlfpainoeiaaGreatDoor.L
open Go.RowKit Go.Proofs.YtiphlfpainoeiaaGreatDoorW.PrintWords Go.Proofs.YtiphlfpainoeiaaGreatDoorW.PrintLast Go.Proofs.YtiphlfpainoeiaaGreatDoorW.PrintMore
attribute [local go_sem] cj cB
noncomputable section
mutual
def aD.j0:Nat→ByteArray→Int→Bool→Option (Int×Int×Nat×ByteArray×ByteArray×Bool)
 |0,_,_,_=>none
 |k+1,r,y,h=>if y>8 then(some (0,0,0,(⟨#[]⟩:ByteArray),(⟨#[]⟩:ByteArray),false))else((b6.f r y).bind fun z=>(if z.2.2=true then((a_.f k z.1).bind fun t108=>(if h=true then(if 0≤(wrap64 (64-(wrap64 (8*y))))then(aD.j1 k z.2.1 y h (Go.bits .xor .u64 t108 (shr .u64 18446744073709551615 (wrap64 (64-(wrap64 (8*y)))))))else(none))else(aD.j1 k z.2.1 y h t108)))else(some (0,0,0,(⟨#[]⟩:ByteArray),(⟨#[]⟩:ByteArray),false))))
def aD.j1:Nat→ByteArray→Int→Bool→Int→Option (Int×Int×Nat×ByteArray×ByteArray×Bool)
 |0,_,_,_,_=>none
 |k+1,r,y,h,q=>(cM.f q).bind fun t109=>(if t109=y then(aD.j2 k r h q true)else(if h=true then(if q=0 then(aD.j2 k r h q (y==1))else(aD.j2 k r h q false))else(aD.j2 k r h q false)))
def aD.j2:Nat→ByteArray→Bool→Int→Bool→Option (Int×Int×Nat×ByteArray×ByteArray×Bool)
 |0,_,_,_,_=>none
 |k+1,r,h,q,D=>if D=true then(aD.j3 k r h q (decide (q>9223372036854775807)))else(aD.j3 k r h q true)
def aD.j3:Nat→ByteArray→Bool→Int→Bool→Option (Int×Int×Nat×ByteArray×ByteArray×Bool)
 |0,_,_,_,_=>none
 |k+1,r,h,q,G=>if G=true then(some (0,0,0,(⟨#[]⟩:ByteArray),(⟨#[]⟩:ByteArray),false))else(if h=true then(some (2,wrap64 ((wrap64 (-(wrap64 (q))))-1),0,(⟨#[]⟩:ByteArray),r,true))else(some (2,wrap64 (q),0,(⟨#[]⟩:ByteArray),r,true)))
end
def aD.f(k:Nat)(a0:ByteArray):Option (Int×Int×Nat×ByteArray×ByteArray×Bool):=(b6.f a0 1).bind fun h=>(if h.2.2=true then(if 0<(h.1.size:Int)then(if(wrap64 ((wrap64 (bt h.1 0))-128))<0 then(aD.j0 k h.2.1 (wrap64 (-(wrap64 ((wrap64 (bt h.1 0))-128)))) (decide ((wrap64 ((wrap64 (bt h.1 0))-128))<0)))else(aD.j0 k h.2.1 (wrap64 ((wrap64 (bt h.1 0))-128)) (decide ((wrap64 ((wrap64 (bt h.1 0))-128))<0))))else(none))else(some (0,0,0,(⟨#[]⟩:ByteArray),(⟨#[]⟩:ByteArray),false)))
theorem aD.mono_l:∀k,(∀q y z,LeO (aD.j0 k q y z) (aD.j0 (k+1) q y z))∧(∀q y z D,LeO (aD.j1 k q y z D) (aD.j1 (k+1) q y z D))∧(∀q y z D,LeO (aD.j2 k q y z D) (aD.j2 (k+1) q y z D))∧(∀q y z D,LeO (aD.j3 k q y z D) (aD.j3 (k+1) q y z D))
 |0=>⟨fun _ _ _ r h=>by simp [aD.j0]at h,fun _ _ _ _ r h=>by simp [aD.j1]at h,fun _ _ _ _ r h=>by simp [aD.j2]at h,fun _ _ _ _ r h=>by simp [aD.j3]at h⟩
 |k+1=>by
  obtain⟨G,J,U,V⟩:=aD.mono_l k;refine⟨?_,?_,?_,?_⟩
  ·intro q y z
   unfold aD.j0
   repeat' first|(with_reducible exact G _ _ _)|(with_reducible exact J _ _ _ _)|(with_reducible exact U _ _ _ _)|(with_reducible exact V _ _ _ _)|(with_reducible exact a_.mono _ _)|(with_reducible exact LeO.refl _)|(with_reducible exact LeO.none _)|(with_reducible refine LeO.ite ?_ ?_)|(with_reducible refine LeO.bind ?_ (fun _=>?_))|exact G _ _ _|exact J _ _ _ _|exact U _ _ _ _|exact V _ _ _ _|exact a_.mono _ _|exact LeO.none _|refine LeO.ite ?_ ?_|refine LeO.bind ?_ (fun _=>?_)
  ·intro q y z D
   unfold aD.j1
   repeat' first|(with_reducible exact G _ _ _)|(with_reducible exact J _ _ _ _)|(with_reducible exact U _ _ _ _)|(with_reducible exact V _ _ _ _)|(with_reducible exact a_.mono _ _)|(with_reducible exact LeO.refl _)|(with_reducible exact LeO.none _)|(with_reducible refine LeO.ite ?_ ?_)|(with_reducible refine LeO.bind ?_ (fun _=>?_))|exact G _ _ _|exact J _ _ _ _|exact U _ _ _ _|exact V _ _ _ _|exact a_.mono _ _|exact LeO.none _|refine LeO.ite ?_ ?_|refine LeO.bind ?_ (fun _=>?_)
  ·intro q y z D
   unfold aD.j2
   repeat' first|(with_reducible exact G _ _ _)|(with_reducible exact J _ _ _ _)|(with_reducible exact U _ _ _ _)|(with_reducible exact V _ _ _ _)|(with_reducible exact a_.mono _ _)|(with_reducible exact LeO.refl _)|(with_reducible exact LeO.none _)|(with_reducible refine LeO.ite ?_ ?_)|(with_reducible refine LeO.bind ?_ (fun _=>?_))|exact G _ _ _|exact J _ _ _ _|exact U _ _ _ _|exact V _ _ _ _|exact a_.mono _ _|exact LeO.none _|refine LeO.ite ?_ ?_|refine LeO.bind ?_ (fun _=>?_)
  ·intro q y z D
   unfold aD.j3
   repeat' first|(with_reducible exact G _ _ _)|(with_reducible exact J _ _ _ _)|(with_reducible exact U _ _ _ _)|(with_reducible exact V _ _ _ _)|(with_reducible exact a_.mono _ _)|(with_reducible exact LeO.refl _)|(with_reducible exact LeO.none _)|(with_reducible refine LeO.ite ?_ ?_)|(with_reducible refine LeO.bind ?_ (fun _=>?_))|exact G _ _ _|exact J _ _ _ _|exact U _ _ _ _|exact V _ _ _ _|exact a_.mono _ _|exact LeO.none _|refine LeO.ite ?_ ?_|refine LeO.bind ?_ (fun _=>?_)
theorem aD.mono:∀a0 k,LeO (aD.f k a0) (aD.f (k+1) a0):=by
 intro a0 k;obtain⟨h,q,r,y⟩:=aD.mono_l k;unfold aD.f
 repeat' first|(with_reducible exact h _ _ _)|(with_reducible exact q _ _ _ _)|(with_reducible exact r _ _ _ _)|(with_reducible exact y _ _ _ _)|(with_reducible exact a_.mono _ _)|(with_reducible exact LeO.refl _)|(with_reducible exact LeO.none _)|(with_reducible refine LeO.ite ?_ ?_)|(with_reducible refine LeO.bind ?_ (fun _=>?_))|exact h _ _ _|exact q _ _ _ _|exact r _ _ _ _|exact y _ _ _ _|exact a_.mono _ _|exact LeO.none _|refine LeO.ite ?_ ?_|refine LeO.bind ?_ (fun _=>?_)
set_option maxHeartbeats 8000000 in
set_option maxRecDepth 100000 in
theorem aD.calls(k:Nat)(a0:ByteArray)(r1:Int)(r2:Int)(r3:Nat)(r4:ByteArray)(J:ByteArray)(U:Bool)(w:World)(h:aD.f k a0=some (r1,r2,r3,r4,J,U)):
 Calls Tryz.prog 138 #[.string a0] w fun e w'=>e= .returned (.tuple #[.agg #[.int .i64 r1, .int .i64 r2, .float .f64 r3, .string r4], .string J, .bool U])∧Below w.heap.size w w':=by
 have r:=aa.mk (rr w.heap.size w);have H:((b6.f a0 1).bind fun bt102=>(if bt102.2.2=true then(if 0<(bt102.1.size:Int)then(if(wrap64 ((wrap64 (bt bt102.1 0))-128))<0 then(aD.j0 k bt102.2.1 (wrap64 (-(wrap64 ((wrap64 (bt bt102.1 0))-128)))) (decide ((wrap64 ((wrap64 (bt bt102.1 0))-128))<0)))else(aD.j0 k bt102.2.1 (wrap64 ((wrap64 (bt bt102.1 0))-128)) (decide ((wrap64 ((wrap64 (bt bt102.1 0))-128))<0))))else(none))else(some (0,0,0,(⟨#[]⟩:ByteArray),(⟨#[]⟩:ByteArray),false))))=some (r1,r2,r3,r4,J,U):=h;clear h;replace H:=rB.mp H;obtain⟨⟨t102,t103,t104⟩,A20,H⟩:=H;replace H:(if t104=true then(if 0<(t102.size:Int)then(if(wrap64 ((wrap64 (bt t102 0))-128))<0 then(aD.j0 k t103 (wrap64 (-(wrap64 ((wrap64 (bt t102 0))-128)))) (decide ((wrap64 ((wrap64 (bt t102 0))-128))<0)))else(aD.j0 k t103 (wrap64 ((wrap64 (bt t102 0))-128)) (decide ((wrap64 ((wrap64 (bt t102 0))-128))<0))))else(none))else(some (0,0,0,(⟨#[]⟩:ByteArray),(⟨#[]⟩:ByteArray),false)))=some (r1,r2,r3,r4,J,U):=H;have A2:=aa.mk A20;clear A20;by_cases c3:t104=true
 ·subst c3
  have G:(if 0<(t102.size:Int)then(if(wrap64 ((wrap64 (bt t102 0))-128))<0 then(aD.j0 k t103 (wrap64 (-(wrap64 ((wrap64 (bt t102 0))-128)))) (decide ((wrap64 ((wrap64 (bt t102 0))-128))<0)))else(aD.j0 k t103 (wrap64 ((wrap64 (bt t102 0))-128)) (decide ((wrap64 ((wrap64 (bt t102 0))-128))<0))))else(none))=some (r1,r2,r3,r4,J,U):=by rw [rp rfl]at H;exact H
  clear H;have H:=G;clear G;by_cases c4:0<(t102.size:Int)
  ·rw [rp c4]at H
   have c4b0:decide (0<(t102.size:Int))=true:=ru c4;clear c4;have HC6:=aa.mk H;clear H;go_enter Tryz.func138,Tryz.ntmps138
   go_upto_if 27 with(first|((with_reducible refine aM (N:=2) rfl ?_);refine aI ?hg (N:=2) ?hd (cs:= #[.int .i64 0, .int .i64 0, .float .f64 0, .string (⟨#[]⟩:ByteArray)]) (t:=84) ?hr ?_;(case hd=>rfl);(case hg=>rfl);(case hr=>(go_simp;done));intro Z hg w7 hbox hb;have q:=aa.mk hbox;have GE101:=gwO hg r;replace r:=bsO r hb;clear hb hbox hg)|(go_at_call 137;(with_reducible refine(b6.calls a0 1 t102 t103 true _ A2.out).mono ?_);rintro e w' ⟨rfl,⟨nd,rfl⟩⟩;have q5:0<t102.size:=(by have:(0:Int)<(t102.size:Int):=dA;omega);have hx5:∀h:0<t102.size,((t102[0]'h).toNat:Int)=bt t102 0:=dy t102 0;replace q5:=rF q5))
   generalize hbl:decide ((wrap64 ((wrap64 (bt t102 0))-128))<0)=y at HC6⊢;go_cut [7] (fun v7 wc=>∃(X:Nat) (z:Int),v7= .int .i64 z∧aa (aD.j0 X t103 z y=some (r1,r2,r3,r4,J,U))∧aa (X≤k)∧aa (wc.heap[Z]? =some (.cells #[.int .i64 0, .int .i64 0, .float .f64 0, .string (⟨#[]⟩:ByteArray)] 84 (0,0)))∧aa (Below w.heap.size w wc))
   case first=>
    have H:=HC6.out;clear HC6;by_cases c8:(wrap64 ((wrap64 (bt t102 0))-128))<0
    ·rw [rp c8]at H
     have c8b0:y=true:=(by rw [←hbl];exact ru c8);clear hbl;subst c8b0;clear c8;have V:=aa.mk H;clear H;go_wp2
     go_meet
     case rel=>exact⟨_,(wrap64 (-(wrap64 ((wrap64 (bt t102 0))-128)))),rfl,V,⟨by omega⟩,⟨by(with_reducible repeat(refine aH ?_ _));exact q.out⟩,⟨by repeat((with_reducible first|exact r.out|apply aq))⟩⟩
    ·rw [rq c8]at H
     have c8b0:y=false:=(by rw [←hbl];exact rC c8);clear hbl;subst c8b0;clear c8;have V:=aa.mk H;clear H;go_wp2
     go_meet
     case rel=>exact⟨_,(wrap64 ((wrap64 (bt t102 0))-128)),rfl,V,⟨by omega⟩,⟨by(with_reducible repeat(refine aH ?_ _));exact q.out⟩,⟨by repeat((with_reducible first|exact r.out|apply aq))⟩⟩
   case rest=>
    clear HC6 hbl c4b0 q5 hx5;obtain⟨X,z,rfl,Y,HJ5,q,r⟩:=hcut;cases X with
    |zero=>exact absurd Y.out (by simp [aD.j0])
    |succ am=>
     have H:=Y.out;clear Y;simp only [aD.j0]at H;by_cases c9:z>8
     ·rw [rp c9]at H
      have c9b0:decide (8<z)=true:=ru c9;clear c9;simp only [Option.some.injEq,Prod.mk.injEq]at H;obtain⟨rfl,rfl,rfl,rfl,rfl,rfl⟩:=H;obtain⟨hcz10_0,hcz10_1,hcz10_2,hcz10_3,hfz10_0,hfz10_1,hfz10_2,hfz10_3⟩:=cz4 q;go_wp2;refine rN (bT rfl _ _ Z 84 #[.int .i64 0, .int .i64 0, .float .f64 0, .string (⟨#[]⟩:ByteArray)] (0,0) _ rfl (by refine al (cs:= #[.int .i64 0, .int .i64 0, .float .f64 0, .string (⟨#[]⟩:ByteArray)]) ?_ 3 _ rfl;refine al (cs:= #[.int .i64 0, .int .i64 0, .float .f64 0, .string (⟨#[]⟩:ByteArray)]) ?_ 2 _ rfl;refine al (cs:= #[.int .i64 0, .int .i64 0, .float .f64 0, .string (⟨#[]⟩:ByteArray)]) ?_ 1 _ rfl;refine al (cs:= #[.int .i64 0, .int .i64 0, .float .f64 0, .string (⟨#[]⟩:ByteArray)]) ?_ 0 _ rfl;exact q.out) Tryz.underlying84 rfl (by kernel_rfl)) rfl ?_;exact⟨by rfl,by repeat((with_reducible first|exact r.out|refine ao ?_ GE101.out))⟩
     ·rw [rq c9]at H
      have c9b0:decide (8<z)=false:=rC c9;clear c9;replace H:=rB.mp H;obtain⟨⟨t105,t106,t107⟩,A110,H⟩:=H;replace H:(if t107=true then((a_.f am t105).bind fun t108=>(if y=true then(if 0≤(wrap64 (64-(wrap64 (8*z))))then(aD.j1 am t106 z y (Go.bits .xor .u64 t108 (shr .u64 18446744073709551615 (wrap64 (64-(wrap64 (8*z)))))))else(none))else(aD.j1 am t106 z y t108)))else(some (0,0,0,(⟨#[]⟩:ByteArray),(⟨#[]⟩:ByteArray),false)))=some (r1,r2,r3,r4,J,U):=H;have A11:=aa.mk A110;clear A110;by_cases c12:t107=true
      ·subst c12
       have G:((a_.f am t105).bind fun t108=>(if y=true then(if 0≤(wrap64 (64-(wrap64 (8*z))))then(aD.j1 am t106 z y (Go.bits .xor .u64 t108 (shr .u64 18446744073709551615 (wrap64 (64-(wrap64 (8*z)))))))else(none))else(aD.j1 am t106 z y t108)))=some (r1,r2,r3,r4,J,U):=(by rw [rp rfl]at H;exact H);clear H;have H:=G;clear G;replace H:=rB.mp H;obtain⟨t108,A130,H⟩:=H;replace H:(if y=true then(if 0≤(wrap64 (64-(wrap64 (8*z))))then(aD.j1 am t106 z y (Go.bits .xor .u64 t108 (shr .u64 18446744073709551615 (wrap64 (64-(wrap64 (8*z)))))))else(none))else(aD.j1 am t106 z y t108))=some (r1,r2,r3,r4,J,U):=H;have A13:=aa.mk A130;clear A130;have HC14:=aa.mk H;clear H
       go_upto_if 45 with(first|(go_at_call 137;(with_reducible refine(b6.calls t103 z t105 t106 true _ A11.out).mono ?_);rintro e w' ⟨rfl,⟨nd,rfl⟩⟩)|(go_at_call 161;(with_reducible refine(a_.calls am t105 t108 _ A13.out).mono ?_);rintro e w' ⟨rfl,⟨nd,rfl⟩⟩))
       go_cut [10] (fun v10 wc=>∃(X:Nat) (D:Int),v10= .int .u64 D∧aa (aD.j1 X t106 z y D=some (r1,r2,r3,r4,J,U))∧aa (X≤am)∧aa (wc.heap[Z]? =some (.cells #[.int .i64 0, .int .i64 0, .float .f64 0, .string (⟨#[]⟩:ByteArray)] 84 (0,0)))∧aa (Below w.heap.size w wc))
       case first=>
        have H:=HC14.out;clear HC14;by_cases c15:y=true
        ·rw [rp c15]at H
         have c15b0:y=true:=c15;subst c15b0;clear c15
         (skip)
         obtain⟨ji16,hji16⟩:∃j_:Int,(wrap64 (64-(wrap64 (8*z))))=j_:=⟨_,rfl⟩;replace H:(if 0≤(ji16)then(aD.j1 am t106 z true (Go.bits .xor .u64 t108 (shr .u64 18446744073709551615 (ji16))))else(none))=some (r1,r2,r3,r4,J,U):=by(rw [hji16]at H;exact H)
         have hji16w:(IntKind.i64.wrap (64-(wrap64 (8*z))))=ji16:=(dI _).trans hji16;by_cases c17:0≤(ji16)
         ·rw [rp c17]at H
          have c17b0:=rF c17;clear c17;obtain⟨ji18,hji18⟩:∃j_:Int,(shr .u64 18446744073709551615 (ji16))=j_:=⟨_,rfl⟩;replace H:(aD.j1 am t106 z true (Go.bits .xor .u64 t108 (ji18)))=some (r1,r2,r3,r4,J,U):=by(rw [hji18]at H;exact H)
          have hji18_:(18446744073709551615/2^min (ji16).toNat 64)=ji18:=hji18;have V:=aa.mk H;clear H;go_wp2
          go_meet
          case rel=>exact⟨_,(Go.bits .xor .u64 t108 (ji18)),rfl,V,⟨by have:=HJ5.out;omega⟩,⟨by(with_reducible repeat(refine aH ?_ _));exact q.out⟩,⟨by repeat((with_reducible first|exact r.out|apply aq))⟩⟩
         ·rw [rq c17]at H
          exact absurd H (by simp)
        ·rw [if_neg c15]at H
         have c15b0:y=false:=(by simpa using c15);subst c15b0;clear c15
         (skip)
         have V:=aa.mk H;clear H;go_wp2
         go_meet
         case rel=>exact⟨_,(t108),rfl,V,⟨by have:=HJ5.out;omega⟩,⟨by(with_reducible repeat(refine aH ?_ _));exact q.out⟩,⟨by repeat((with_reducible first|exact r.out|apply aq))⟩⟩
       case rest=>
        clear HC14 c9b0;obtain⟨X,D,rfl,Y,HJ13,q,r⟩:=hcut;cases X with
        |zero=>exact absurd Y.out (by simp [aD.j1])
        |succ kj13=>
         have H:=Y.out;clear Y;simp only [aD.j1]at H;have HC19:=aa.mk H;clear H;go_upto_region 16 with(fail);go_cut [11] (fun v11 wc=>∃(X:Nat) (x11_18:Bool),v11= .bool x11_18∧aa (aD.j2 X t106 y D x11_18=some (r1,r2,r3,r4,J,U))∧aa (X≤kj13)∧aa (wc.heap[Z]? =some (.cells #[.int .i64 0, .int .i64 0, .float .f64 0, .string (⟨#[]⟩:ByteArray)] 84 (0,0)))∧aa (Below w.heap.size w wc))
         case first=>
          have H:=HC19.out;clear HC19;replace H:=rB.mp H;obtain⟨t109,A200,H⟩:=H;replace H:(if t109=z then(aD.j2 kj13 t106 y D true)else(if y=true then(if D=0 then(aD.j2 kj13 t106 y D (z==1))else(aD.j2 kj13 t106 y D false))else(aD.j2 kj13 t106 y D false)))=some (r1,r2,r3,r4,J,U):=H;have A20:=aa.mk A200;clear A200;by_cases c21:t109=z
          ·rw [rp c21]at H
           have c21b0:(t109==z)=true:=rI.mpr c21;clear c21
           (skip)
           have V:=aa.mk H;clear H;go_wp2_with ((go_at_call 162;(with_reducible refine(cM.calls D t109 _ A20.out).mono ?_);rintro e w' ⟨rfl,⟨nd,rfl⟩⟩))
           go_meet
           case rel=>exact⟨_,(true),rfl,V,⟨by have:=HJ5.out;have:=HJ13.out;omega⟩,⟨by(with_reducible repeat(refine aH ?_ _));exact q.out⟩,⟨by repeat((with_reducible first|exact r.out|apply aq))⟩⟩
          ·rw [rq c21]at H
           have c21b0:(t109==z)=false:=ry.mpr c21
           (skip)
           by_cases c22:y=true
           ·rw [rp c22]at H
            have c22b0:y=true:=c22;subst c22b0;clear c22;by_cases c23:D=0
            ·rw [rp c23]at H
             have c23b0:(D==0)=true:=rI.mpr c23;clear c23;have V:=aa.mk H;clear H;go_wp2_with ((go_at_call 162;(with_reducible refine(cM.calls D t109 _ A20.out).mono ?_);rintro e w' ⟨rfl,⟨nd,rfl⟩⟩))
             go_meet
             case rel=>exact⟨_,((z==1)),rfl,V,⟨by have:=HJ5.out;have:=HJ13.out;omega⟩,⟨by(with_reducible repeat(refine aH ?_ _));exact q.out⟩,⟨by repeat((with_reducible first|exact r.out|apply aq))⟩⟩
            ·rw [rq c23]at H
             have c23b0:(D==0)=false:=ry.mpr c23;have V:=aa.mk H;clear H;go_wp2_with ((go_at_call 162;(with_reducible refine(cM.calls D t109 _ A20.out).mono ?_);rintro e w' ⟨rfl,⟨nd,rfl⟩⟩))
             go_meet
             case rel=>exact⟨_,(false),rfl,V,⟨by have:=HJ5.out;have:=HJ13.out;omega⟩,⟨by(with_reducible repeat(refine aH ?_ _));exact q.out⟩,⟨by repeat((with_reducible first|exact r.out|apply aq))⟩⟩
           ·rw [rq c22]at H
            have c22b0:y=false:=(by simpa using c22);subst c22b0;clear c22;have V:=aa.mk H;clear H;go_wp2_with ((go_at_call 162;(with_reducible refine(cM.calls D t109 _ A20.out).mono ?_);rintro e w' ⟨rfl,⟨nd,rfl⟩⟩))
            go_meet
            case rel=>exact⟨_,(false),rfl,V,⟨by have:=HJ5.out;have:=HJ13.out;omega⟩,⟨by(with_reducible repeat(refine aH ?_ _));exact q.out⟩,⟨by repeat((with_reducible first|exact r.out|apply aq))⟩⟩
         case rest=>
          clear HC19;obtain⟨X,x11_18,rfl,Y,HJ18,q,r⟩:=hcut;cases X with
          |zero=>exact absurd Y.out (by simp [aD.j2])
          |succ kj18=>
           have H:=Y.out;clear Y;simp only [aD.j2]at H;have HC24:=aa.mk H;clear H;go_upto_region 17 with(fail);go_cut [72] (fun v72 wc=>∃(X:Nat) (x72_23:Bool),v72= .bool x72_23∧aa (aD.j3 X t106 y D x72_23=some (r1,r2,r3,r4,J,U))∧aa (X≤kj18)∧aa (wc.heap[Z]? =some (.cells #[.int .i64 0, .int .i64 0, .float .f64 0, .string (⟨#[]⟩:ByteArray)] 84 (0,0)))∧aa (Below w.heap.size w wc))
           case first=>
            have H:=HC24.out;clear HC24;by_cases c25:x11_18=true
            ·subst c25
             have G:(aD.j3 kj18 t106 y D (decide (D>9223372036854775807)))=some (r1,r2,r3,r4,J,U):=(by rw [rp rfl]at H;exact H);clear H;have H:=G;clear G;have V:=aa.mk H;clear H;go_wp2
             go_meet
             case rel=>exact⟨_,(decide (D>9223372036854775807)),rfl,V,⟨by have:=HJ5.out;have:=HJ13.out;have:=HJ18.out;omega⟩,⟨q.out⟩,⟨r.out⟩⟩
            ·replace c25:=rT.mpr c25
             subst c25;have G:(aD.j3 kj18 t106 y D true)=some (r1,r2,r3,r4,J,U):=(by rw [rq (show¬(false=true)by decide)]at H;exact H);clear H;have H:=G;clear G;have V:=aa.mk H;clear H;go_wp2
             go_meet
             case rel=>exact⟨_,(true),rfl,V,⟨by have:=HJ5.out;have:=HJ13.out;have:=HJ18.out;omega⟩,⟨q.out⟩,⟨r.out⟩⟩
           case rest=>
            clear HC24;obtain⟨X,x72_23,rfl,Y,HJ23,q,r⟩:=hcut;cases X with
            |zero=>exact absurd Y.out (by simp [aD.j3])
            |succ kj23=>
             have H:=Y.out;clear Y;simp only [aD.j3]at H;by_cases c26:x72_23=true
             ·subst c26
              have G:(some (0,0,0,(⟨#[]⟩:ByteArray),(⟨#[]⟩:ByteArray),false))=some (r1,r2,r3,r4,J,U):=(by rw [rp rfl]at H;exact H);clear H;have H:=G;clear G;simp only [Option.some.injEq,Prod.mk.injEq]at H;obtain⟨rfl,rfl,rfl,rfl,rfl,rfl⟩:=H;obtain⟨hcz27_0,hcz27_1,hcz27_2,hcz27_3,hfz27_0,hfz27_1,hfz27_2,hfz27_3⟩:=cz4 q;go_wp2;refine rN (bT rfl _ _ Z 84 #[.int .i64 0, .int .i64 0, .float .f64 0, .string (⟨#[]⟩:ByteArray)] (0,0) _ rfl (by refine al (cs:= #[.int .i64 0, .int .i64 0, .float .f64 0, .string (⟨#[]⟩:ByteArray)]) ?_ 3 _ rfl;refine al (cs:= #[.int .i64 0, .int .i64 0, .float .f64 0, .string (⟨#[]⟩:ByteArray)]) ?_ 2 _ rfl;refine al (cs:= #[.int .i64 0, .int .i64 0, .float .f64 0, .string (⟨#[]⟩:ByteArray)]) ?_ 1 _ rfl;refine al (cs:= #[.int .i64 0, .int .i64 0, .float .f64 0, .string (⟨#[]⟩:ByteArray)]) ?_ 0 _ rfl;exact q.out) Tryz.underlying84 rfl (by kernel_rfl)) rfl ?_;exact⟨by rfl,by repeat((with_reducible first|exact r.out|refine ao ?_ GE101.out))⟩
             ·replace c26:=rT.mpr c26
              subst c26;have G:(if y=true then(some (2,wrap64 ((wrap64 (-(wrap64 (D))))-1),0,(⟨#[]⟩:ByteArray),t106,true))else(some (2,wrap64 (D),0,(⟨#[]⟩:ByteArray),t106,true)))=some (r1,r2,r3,r4,J,U):=(by rw [rq (show¬(false=true)by decide)]at H;exact H);clear H;have H:=G;clear G;by_cases c28:y=true
              ·rw [rp c28]at H
               have c28b0:y=true:=c28;subst c28b0;clear c28;simp only [Option.some.injEq,Prod.mk.injEq]at H;obtain⟨rfl,rfl,rfl,rfl,rfl,rfl⟩:=H;obtain⟨hcz29_0,hcz29_1,hcz29_2,hcz29_3,hfz29_0,hfz29_1,hfz29_2,hfz29_3⟩:=cz4 q;go_wp2;refine rN (bT rfl _ _ Z 84 #[.int .i64 2, .int .i64 (wrap64 ((wrap64 (-(wrap64 (D))))-1)), .float .f64 0, .string (⟨#[]⟩:ByteArray)] (0,0) _ rfl (by refine al (cs:= #[.int .i64 2, .int .i64 (wrap64 ((wrap64 (-(wrap64 (D))))-1)), .float .f64 0, .string (⟨#[]⟩:ByteArray)]) ?_ 3 _ rfl;refine al (cs:= #[.int .i64 2, .int .i64 (wrap64 ((wrap64 (-(wrap64 (D))))-1)), .float .f64 0, .string (⟨#[]⟩:ByteArray)]) ?_ 2 _ rfl;refine al (cs:= #[.int .i64 2, .int .i64 0, .float .f64 0, .string (⟨#[]⟩:ByteArray)]) ?_ 1 _ rfl;refine al (cs:= #[.int .i64 0, .int .i64 0, .float .f64 0, .string (⟨#[]⟩:ByteArray)]) ?_ 0 _ rfl;exact q.out) Tryz.underlying84 rfl (by kernel_rfl)) rfl ?_;exact⟨by rfl,by repeat((with_reducible first|exact r.out|refine ao ?_ GE101.out))⟩
              ·rw [rq c28]at H
               have c28b0:y=false:=(by simpa using c28);subst c28b0;clear c28;simp only [Option.some.injEq,Prod.mk.injEq]at H;obtain⟨rfl,rfl,rfl,rfl,rfl,rfl⟩:=H;obtain⟨hcz30_0,hcz30_1,hcz30_2,hcz30_3,hfz30_0,hfz30_1,hfz30_2,hfz30_3⟩:=cz4 q;go_wp2;refine rN (bT rfl _ _ Z 84 #[.int .i64 2, .int .i64 (wrap64 (D)), .float .f64 0, .string (⟨#[]⟩:ByteArray)] (0,0) _ rfl (by refine al (cs:= #[.int .i64 2, .int .i64 (wrap64 (D)), .float .f64 0, .string (⟨#[]⟩:ByteArray)]) ?_ 3 _ rfl;refine al (cs:= #[.int .i64 2, .int .i64 (wrap64 (D)), .float .f64 0, .string (⟨#[]⟩:ByteArray)]) ?_ 2 _ rfl;refine al (cs:= #[.int .i64 2, .int .i64 0, .float .f64 0, .string (⟨#[]⟩:ByteArray)]) ?_ 1 _ rfl;refine al (cs:= #[.int .i64 0, .int .i64 0, .float .f64 0, .string (⟨#[]⟩:ByteArray)]) ?_ 0 _ rfl;exact q.out) Tryz.underlying84 rfl (by kernel_rfl)) rfl ?_;exact⟨by rfl,by repeat((with_reducible first|exact r.out|refine ao ?_ GE101.out))⟩
      ·replace c12:=rT.mpr c12
       subst c12;have G:(some (0,0,0,(⟨#[]⟩:ByteArray),(⟨#[]⟩:ByteArray),false))=some (r1,r2,r3,r4,J,U):=(by rw [rq (show¬(false=true)by decide)]at H;exact H);clear H;have H:=G;clear G;simp only [Option.some.injEq,Prod.mk.injEq]at H;obtain⟨rfl,rfl,rfl,rfl,rfl,rfl⟩:=H;go_wp2_with ((go_at_call 137;(with_reducible refine(b6.calls t103 z t105 t106 false _ A11.out).mono ?_);rintro e w' ⟨rfl,⟨nd,rfl⟩⟩;(try(rw [cW wc];generalize hq_:World.drewN wc _=wc;have n0_:aa (wc.heap[Z]? =some (.cells #[.int .i64 0, .int .i64 0, .float .f64 0, .string (⟨#[]⟩:ByteArray)] 84 (0,0))):=⟨by rw [←hq_];exact(by(with_reducible repeat(refine aH ?_ _));exact q.out)⟩;have n1_:aa (Below w.heap.size w wc):=⟨by rw [←hq_];exact(by repeat((with_reducible first|exact r.out|apply aq)))⟩;clear q r hq_;have q:=n0_;have r:=n1_;clear n0_ n1_));obtain⟨hcz31_0,hcz31_1,hcz31_2,hcz31_3,hfz31_0,hfz31_1,hfz31_2,hfz31_3⟩:=cz4 q));refine rN (bT rfl _ _ Z 84 #[.int .i64 0, .int .i64 0, .float .f64 0, .string (⟨#[]⟩:ByteArray)] (0,0) _ rfl (by refine al (cs:= #[.int .i64 0, .int .i64 0, .float .f64 0, .string (⟨#[]⟩:ByteArray)]) ?_ 3 _ rfl;refine al (cs:= #[.int .i64 0, .int .i64 0, .float .f64 0, .string (⟨#[]⟩:ByteArray)]) ?_ 2 _ rfl;refine al (cs:= #[.int .i64 0, .int .i64 0, .float .f64 0, .string (⟨#[]⟩:ByteArray)]) ?_ 1 _ rfl;refine al (cs:= #[.int .i64 0, .int .i64 0, .float .f64 0, .string (⟨#[]⟩:ByteArray)]) ?_ 0 _ rfl;exact q.out) Tryz.underlying84 rfl (by kernel_rfl)) rfl ?_;exact⟨by rfl,by repeat((with_reducible first|exact r.out|refine ao ?_ GE101.out))⟩
  ·rw [rq c4]at H
   exact absurd H (by simp)
 ·replace c3:=rT.mpr c3
  subst c3;have G:(some (0,0,0,(⟨#[]⟩:ByteArray),(⟨#[]⟩:ByteArray),false))=some (r1,r2,r3,r4,J,U):=by rw [rq (show¬(false=true)by decide)]at H;exact H
  clear H;have H:=G;clear G;simp only [Option.some.injEq,Prod.mk.injEq]at H;obtain⟨rfl,rfl,rfl,rfl,rfl,rfl⟩:=H;go_enter Tryz.func138,Tryz.ntmps138;go_wp2_with (first|((with_reducible refine aM (N:=2) rfl ?_);refine aI ?hg (N:=2) ?hd (cs:= #[.int .i64 0, .int .i64 0, .float .f64 0, .string (⟨#[]⟩:ByteArray)]) (t:=84) ?hr ?_;(case hd=>rfl);(case hg=>rfl);(case hr=>(go_simp;done));intro Z hg w32 hbox hb;have q:=aa.mk hbox;have GE101:=gwO hg r;replace r:=bsO r hb;clear hb hbox hg)|(go_at_call 137;(with_reducible refine(b6.calls a0 1 t102 t103 false _ A2.out).mono ?_);rintro e w' ⟨rfl,⟨nd,rfl⟩⟩;(try(rw [cW w32];generalize hq_:World.drewN w32 _=w32;have n0_:aa (w32.heap[Z]? =some (.cells #[.int .i64 0, .int .i64 0, .float .f64 0, .string (⟨#[]⟩:ByteArray)] 84 (0,0))):=⟨by rw [←hq_];exact(by(with_reducible repeat(refine aH ?_ _));exact q.out)⟩;have n1_:aa (Below w.heap.size w w32):=⟨by rw [←hq_];exact(by repeat((with_reducible first|exact r.out|apply aq)))⟩;clear q r hq_;have q:=n0_;have r:=n1_;clear n0_ n1_));obtain⟨hcz33_0,hcz33_1,hcz33_2,hcz33_3,hfz33_0,hfz33_1,hfz33_2,hfz33_3⟩:=cz4 q));refine rN (bT rfl _ _ Z 84 #[.int .i64 0, .int .i64 0, .float .f64 0, .string (⟨#[]⟩:ByteArray)] (0,0) _ rfl (by refine al (cs:= #[.int .i64 0, .int .i64 0, .float .f64 0, .string (⟨#[]⟩:ByteArray)]) ?_ 3 _ rfl;refine al (cs:= #[.int .i64 0, .int .i64 0, .float .f64 0, .string (⟨#[]⟩:ByteArray)]) ?_ 2 _ rfl;refine al (cs:= #[.int .i64 0, .int .i64 0, .float .f64 0, .string (⟨#[]⟩:ByteArray)]) ?_ 1 _ rfl;refine al (cs:= #[.int .i64 0, .int .i64 0, .float .f64 0, .string (⟨#[]⟩:ByteArray)]) ?_ 0 _ rfl;exact q.out) Tryz.underlying84 rfl (by kernel_rfl)) rfl ?_;exact⟨by rfl,by repeat((with_reducible first|exact r.out|refine ao ?_ GE101.out))⟩
def cZ.f(k:Nat)(l0:List Int)(h:Int)(q:Int)(z:Nat)(r:ByteArray):Option (List Int):=if h=1 then((some (([2,(q)%256]:List Int):List Int)).bind fun y=>(if l0.length+y.length<140737488355328 then(some (l0++y))else(none)))else(if h=2 then(if l0.length<140737488355328 then((dx.f k (l0++ [3]) q).bind fun t111=>(some t111))else(none))else(if h=3 then(if l0.length<140737488355328 then((bQ.f h q z r).bind fun D=>((cx.f k (l0++ [4]) D.2.2.1).bind fun t121=>(some t121)))else(none))else(if h=4 then(if l0.length<140737488355328 then((b9.f (l0++ [5]) r).bind fun t127=>(some t127))else(none))else(if h=5 then(if l0.length<140737488355328 then((b9.f (l0++ [6]) r).bind fun t133=>(some t133))else(none))else(if l0.length<140737488355328 then(some (l0++ [1]))else(none))))))
def cZ.T7:Bool×List (List Nat×List Nat):=(true,[([],[]),([],[]),([0,1],[0,1]),([],[]),([3,2],[3]),([4],[4]),([2,5,4],[2,5]),([6,6,0,1,2,3,4,5,6],[6])])
def cZ.B7:List Nat:=[0,0,3,0,15,31,63,127]
theorem cZ.tab7:dK .any (fa Tryz.f108 7)=cZ.T7:=by kernel_rfl
theorem cZ.bits7:dq cZ.T7.2 cZ.B7=true:=by kernel_rfl
set_option maxHeartbeats 8000000 in
set_option maxRecDepth 100000 in
theorem cZ.calls(k:Nat)(ap:Nat→Prop)(u9000_:Value)(l0:List Int)(am:Int)(a1_1:Int)(a1_2:Nat)(a1_3:ByteArray)(r:List Int)(w0 w:World)(hB:Below w0.heap.size w0 w)(ho0:Kd.R (Kd.int .u8) 5 w w0.heap.size ap u9000_ l0)(hG:GT w0)(h:cZ.f k l0 am a1_1 a1_2 a1_3=some r):
 Calls Tryz.prog 108 #[u9000_, .agg #[.int .i64 am, .int .i64 a1_1, .float .f64 a1_2, .string a1_3]] w fun e w'=>∃v0_:Value,e= .returned (v0_)∧Kd.R (Kd.int .u8) 5 w' w0.heap.size (fun y=>(ap y∨w.heap.size≤y)) v0_ r∧Below w0.heap.size w0 w'∧bV w w' (fun y=>ap y):=by
 have J:=aa.mk (show Kd.R (Kd.int .u8) 5 w w0.heap.size (fun y=>(ap y∨w.heap.size≤y)) u9000_ l0 from Kd.R_mono ho0 (fun y hk=>(.inl hk)));have z:=aa.mk (bV.refl w (fun y=>ap y));have D:=aa.mk hB;clear hB;have HGT:=aa.mk hG;clear hG;have H:(if am=1 then((some (([2,(a1_1)%256]:List Int):List Int)).bind fun y102=>(if l0.length+y102.length<140737488355328 then(some (l0++y102))else(none)))else(if am=2 then(if l0.length<140737488355328 then((dx.f k (l0++ [3]) a1_1).bind fun t111=>(some t111))else(none))else(if am=3 then(if l0.length<140737488355328 then((bQ.f am a1_1 a1_2 a1_3).bind fun bt117=>((cx.f k (l0++ [4]) bt117.2.2.1).bind fun t121=>(some t121)))else(none))else(if am=4 then(if l0.length<140737488355328 then((b9.f (l0++ [5]) a1_3).bind fun t127=>(some t127))else(none))else(if am=5 then(if l0.length<140737488355328 then((b9.f (l0++ [6]) a1_3).bind fun t133=>(some t133))else(none))else(if l0.length<140737488355328 then(some (l0++ [1]))else(none)))))))=some r:=h;clear h;by_cases c3:am=1
 ·rw [rp c3]at H
  have c3b0:(am==1)=true:=rI.mpr c3;clear c3;obtain⟨y102,hy102⟩:∃y_:List Int,y_=(([2,(a1_1)%256]:List Int)):=⟨_,rfl⟩;replace H:(if l0.length+y102.length<140737488355328 then(some (l0++y102))else(none))=some r:=by(have H2_:=(rG _ _).symm.trans H;rw [hy102];with_reducible exact H2_)
  have Ny102:=aa.mk hy102;clear hy102;by_cases c4:l0.length+y102.length<140737488355328
  ·rw [rp c4]at H
   have LMc4:=aa.mk c4;clear c4;obtain⟨y105,hy105⟩:∃y_:List Int,y_=(l0++y102):=⟨_,rfl⟩;replace H:(some y105)=some r:=by(rw [hy105];with_reducible exact H)
   have Ny105:=aa.mk hy105;clear hy105;obtain rfl:=rD H;go_enter Tryz.func108,Tryz.ntmps108;go_wp2_with (first|((with_reducible refine aM (N:=3) rfl ?_);refine aI ?hg (N:=3) ?hd (cs:= #[.int .i64 am, .int .i64 a1_1, .float .f64 a1_2, .string a1_3]) (t:=84) ?hr ?_;(case hd=>rfl);(case hg=>rfl);(case hr=>(go_simp;done));intro gb101 hg w5 hbox G;replace J:=aa.mk (Kd.R_below J.out G);have q:=aa.mk hbox;replace z:=aa.mk (bV.below (S:=(fun y=>ap y)) z.out G);replace D:=bsO D G;clear G hbox hg;obtain⟨hcz6_0,hcz6_1,hcz6_2,hcz6_3,hfz6_0,hfz6_1,hfz6_2,hfz6_3⟩:=cz4 q)|((with_reducible refine aM (N:=13) rfl ?_);refine Kd.R_lit (Kd.int .u8) _ 5 ?hg (N:=13) ?hd (xs:=([2,(a1_1)%256]:List Int)) (inner:=[.int .u8 2, .int .u8 ((a1_1)%256)]) (ok:=fun _=>True) (okp:=fun _=>True) ?hr ?hp (fun _ hk=>hk) trivial (rr _ _) (rA _) (by simp) ?_;(case hd=>rfl);(case hg=>rfl);(case hr=>(go_simp;done));(case hp=>exact(dg.one (show Kd.M (Kd.int .u8) _ _ _ 2 [.int .u8 2]from rfl) (dg.one (show Kd.M (Kd.int .u8) _ _ _ ((a1_1)%256) [.int .u8 ((a1_1)%256)]from rfl) (dg.none _ _))));intro v103 w7 ho8 G hg_ hnew_;clear hg_ hnew_;(rw [←Ny102.out]at ho8);have HO104:=aa.mk (Kd.R_lower (Kd.R_new' (Kd.R_newM (M:=fun y=>(ap y∨w.heap.size≤y)) ho8 z.out.1 (fun y h_=> .inr h_)) (Kd.R_lt J.out)) (ay D.out));replace J:=aa.mk (Kd.R_elder' J.out (Kd.R_base ho8) G);replace q:=bbO q G;replace z:=aa.mk (bV.below (S:=(fun y=>ap y)) z.out G);replace D:=bsO D G;clear G ho8;obtain⟨Ao10,co10,eo10⟩:=Kd.R_slice HO104.out;subst eo10)|((with_reducible refine aZ (b:= .append) (xs:= #[.tmp 9, .tmp 13]) rfl ?_);at_builtin;refine Kd.R_append_rows (Kd.int .u8) (w0:=w0) w0.heap.size rfl (.tmp 9) (.tmp 13) 66 5 (.int .u8 0) 1 rfl Tryz.underlying66 b8 rfl (by decide) (by omega) u9000_ l0 y102 _ _ _ (fun y=>(ap y∨w.heap.size≤y)∧some y≠(.slice Ao10 y102.length co10:Value).ownBlock) (fun _=>False) rfl rfl ?aO ?aR (fun _ _ h=>h) (fun _ h=>h.elim) ?aF ?aB ?aS ?aL ?_;(case aR=>repeat(exact(Kd.R_reads' HO104.out).2.2));(case aB=>exact D.out);(case aF=>exact(fun y hk=>⟨(.inr (rK z.out.1 hk)),Kd.fresh' (Kd.R_lt HO104.out) y hk⟩));(case aO=>exact J.out);(case aS=>exact(ay D.out));(case aL=>have:=LMc4.out;omega);intro v106 w9 ho G hg hat;rw [←Ny105.out]at ho;replace q:=aa.mk (bC q.out hg (Kd.R_ne J.out q.out (by decide)));replace HO104:=aa.mk (Kd.R_after (ok:=(fun y=>(ap y∨w.heap.size≤y))) (by exact Kd.R_mono HO104.out (fun _ hk=>⟨hk.1.1,hk.2⟩)) hg hat);replace D:=aa.mk (G);replace z:=aa.mk (bV.of_grown (S:=(fun y=>ap y)) hg z.out (fun y e_=>(J.out.1 y e_).1));have HO107:=aa.mk (ho);clear J;clear ho G hg hat));go_ret;exact⟨_,by rfl,by exact Kd.R_mono HO107.out (fun _ hk=>hk.1),by exact D.out,by exact z.out⟩
  ·rw [rq c4]at H
   exact absurd H (by simp)
 ·rw [if_neg c3]at H
  have c3b0:(am==1)=false:=ry.mpr c3;by_cases c11:am=2
  ·rw [rp c11]at H
   have c11b0:(am==2)=true:=rI.mpr c11;clear c11;by_cases c12:l0.length<140737488355328
   ·rw [rp c12]at H
    have LMc12:=aa.mk c12;clear c12;obtain⟨y108,hy108⟩:∃y_:List Int,y_=(l0++ [3]):=⟨_,rfl⟩;replace H:((dx.f k y108 a1_1).bind fun t111=>(some t111))=some r:=by(rw [hy108];with_reducible exact H)
    have Ny108:=aa.mk hy108;clear hy108;replace H:=rB.mp H;obtain⟨t111,A130,H⟩:=H;replace H:(some t111)=some r:=H;have A13:=aa.mk A130;clear A130;obtain rfl:=rD H;go_enter Tryz.func108,Tryz.ntmps108;try go_wp2_with (((with_reducible refine aM (N:=3) rfl ?_);refine aI ?hg (N:=3) ?hd (cs:= #[.int .i64 am, .int .i64 a1_1, .float .f64 a1_2, .string a1_3]) (t:=84) ?hr ?_;(case hd=>rfl);(case hg=>rfl);(case hr=>(go_simp;done));intro gb101 hg w14 hbox G;replace J:=aa.mk (Kd.R_below J.out G);have q:=aa.mk hbox;replace z:=aa.mk (bV.below (S:=(fun y=>ap y)) z.out G);replace D:=bsO D G;clear G hbox hg;obtain⟨hcz15_0,hcz15_1,hcz15_2,hcz15_3,hfz15_0,hfz15_1,hfz15_2,hfz15_3⟩:=cz4 q))
    have V:=aa.mk (Kd.R_drew J.out);have X:=aa.mk (aN q.out);have Y:=aa.mk (bV.drew z.out);have Z:=aa.mk (aJ D.out);clear J q z D;have J:=V;have q:=X;have z:=Y;have D:=Z;clear V X Y Z;refine cH (n:=7) (S:=fun w'=>w'.cell? ⟨gb101,0,none⟩=some (.int .i64 am)∧w'.cell? ⟨gb101,1,none⟩=some (.int .i64 a1_1)∧w'.cell? ⟨gb101,2,none⟩=some (.float .f64 a1_2)∧w'.cell? ⟨gb101,3,none⟩=some (.string a1_3)) (ds:=[]) #[false,false,false,false,false,false,false] (by kernel_rfl) rfl rfl ⟨(ab q.out 0).trans rfl,(ab q.out 1).trans rfl,(ab q.out 2).trans rfl,(ab q.out 3).trans rfl⟩ (fun hHeld=>?_);generalize w14.drew=w16 at J q z D hHeld⊢;refine puK 0 17 ?_;refine puK 3 20 ?_;refine taK 4 21 hHeld ?_;refine onK 1 (some 18) (fun K U=>?_);refine fG (w1:=?_) (v:=?_) rfl rfl ?_ ?_;rotate_left 2
    ·go_simp
     constructor;·rfl
     ·rfl
    refine U.out _ _ ⟨(ab (ar q.out _) 0).trans rfl,(ab (ar q.out _) 1).trans rfl,(ab (ar q.out _) 2).trans rfl,(ab (ar q.out _) 3).trans rfl⟩ (fun hHeld=>?_);clear U K;refine nmS ?_;refine onK 2 (some 19) (fun K U=>?_);refine Kd.R_append_step (Kd.int .u8) (w0:=w0) w0.heap.size rfl (.tmp 17) (.tmp 18) 66 5 (.int .u8 0) 1 rfl Tryz.underlying66 b8 rfl (by decide) (by omega) u9000_ l0 3 [.int .u8 3] (fun y=>(ap y∨w.heap.size≤y)) (fun _=>False) rfl rfl ?aP (fun _ hk=>hk.elim) ?aF ?aO ?aB ?aS ?aL ?_
    (case aP=>exact rfl)
    (case aB=>exact D.out)
    (case aF=>exact(fun y hk=>(.inr (rK z.out.1 hk))))
    (case aO=>exact J.out)
    (case aS=>exact(ay D.out))
    (case aL=>have:=LMc12.out;omega)
    intro v109 w17 ho G hg hat;rw [←Ny108.out]at ho;have V:=aa.mk (bC q.out hg (Kd.R_ne J.out q.out (by decide)));have X:=aa.mk (G);have Y:=aa.mk (bV.of_grown (S:=(fun y=>ap y)) hg z.out (fun y e_=>(J.out.1 y e_)));have Z:=aa.mk (ho);clear q D z J;have q:=V;have D:=X;have z:=Y;have HO110:=Z;clear V X Y Z ho G hg hat;obtain⟨Ao18,co18,eo18⟩:=Kd.R_slice HO110.out
    (subst eo18)
    refine U.out _ _ ⟨(ab q.out 0).trans rfl,(ab q.out 1).trans rfl,(ab q.out 2).trans rfl,(ab q.out 3).trans rfl⟩ (fun hHeld=>?_);clear U K;refine nmS ?_;refine onK 5 (some 22) (fun K U=>?_);refine dQ Tryz.func141 (by kernel_rfl) rfl #[.slice Ao18 y108.length co18, .int .i64 a1_1] rfl rfl rfl (by(try simp only [List.map_toArray,List.map_cons,List.map_nil]);rfl) ?_
    with_reducible refine(dx.calls k (fun y=>some y=(.slice Ao18 y108.length co18:Value).ownBlock) (.slice Ao18 y108.length co18) y108 a1_1 t111 w0 _ ?side1 ?side2 A13.out).mono ?_
    (case side1=>repeat(with_reducible exact D.out))
    (case side2=>exact Kd.R_tight rfl HO110.out)
    rintro e w19 ⟨v112,rfl,ho0,G,hkp⟩;refine⟨_,rfl,?_⟩;have V:=aa.mk (dM q.out hkp (fun hs_=>(fun e_=>(Kd.R_ne HO110.out q.out (by decide)) e_) hs_));have X:=aa.mk (Kd.R_mono (ok':=fun y=>(ap y∨w.heap.size≤y)) ho0 (fun y hk_=>Or.elim hk_ (fun hs_=>(HO110.out.1 y (hs_).symm)) (fun hn_=>(.inr (rK z.out.1 hn_)))));have Y:=aa.mk (bV.then_ (S:=(fun y=>ap y)) z.out hkp (fun y hs_=>(fun e_=>(HO110.out.1 y e_.symm)) hs_));have Z:=aa.mk (G);clear q z D HO110;have q:=V;have HO113:=X;have z:=Y;have D:=Z;clear V X Y Z
    (try clear G)
    (try clear hkp)
    (try clear ho0)
    refine U.out _ _ ⟨(ab q.out 0).trans rfl,(ab q.out 1).trans rfl,(ab q.out 2).trans rfl,(ab q.out 3).trans rfl⟩ (fun hHeld=>?_);clear U K;refine nmS ?_;refine puK 6 4 ?_;refine dp (by kernel_rfl) ?_;try go_wp2
    go_ret;exact⟨_,by rfl,by exact HO113.out,by exact D.out,by exact z.out⟩
   ·rw [rq c12]at H
    exact absurd H (by simp)
  ·rw [if_neg c11]at H
   have c11b0:(am==2)=false:=ry.mpr c11;by_cases c20:am=3
   ·rw [rp c20]at H
    have c20b0:(am==3)=true:=rI.mpr c20;clear c20;by_cases c21:l0.length<140737488355328
    ·rw [rp c21]at H
     have LMc21:=aa.mk c21;clear c21;obtain⟨y114,hy114⟩:∃y_:List Int,y_=(l0++ [4]):=⟨_,rfl⟩;replace H:((bQ.f am a1_1 a1_2 a1_3).bind fun bt117=>((cx.f k y114 bt117.2.2.1).bind fun t121=>(some t121)))=some r:=by(rw [hy114];with_reducible exact H)
     have Ny114:=aa.mk hy114;clear hy114;replace H:=rB.mp H;obtain⟨⟨t117,t118,t119,t120⟩,A220,H⟩:=H;replace H:((cx.f k y114 t119).bind fun t121=>(some t121))=some r:=H;have A22:=aa.mk A220;clear A220;replace H:=rB.mp H;obtain⟨t121,A230,H⟩:=H;replace H:(some t121)=some r:=H;have A23:=aa.mk A230;clear A230;obtain rfl:=rD H;go_enter Tryz.func108,Tryz.ntmps108;try go_wp2_with (((with_reducible refine aM (N:=3) rfl ?_);refine aI ?hg (N:=3) ?hd (cs:= #[.int .i64 am, .int .i64 a1_1, .float .f64 a1_2, .string a1_3]) (t:=84) ?hr ?_;(case hd=>rfl);(case hg=>rfl);(case hr=>(go_simp;done));intro gb101 hg w24 hbox G;replace J:=aa.mk (Kd.R_below J.out G);have q:=aa.mk hbox;replace z:=aa.mk (bV.below (S:=(fun y=>ap y)) z.out G);replace D:=bsO D G;clear G hbox hg;obtain⟨hcz25_0,hcz25_1,hcz25_2,hcz25_3,hfz25_0,hfz25_1,hfz25_2,hfz25_3⟩:=cz4 q))
     have V:=aa.mk (Kd.R_drew J.out);have X:=aa.mk (aN q.out);have Y:=aa.mk (bV.drew z.out);have Z:=aa.mk (aJ D.out);clear J q z D;have J:=V;have q:=X;have z:=Y;have D:=Z;clear V X Y Z;refine cH (n:=8) (S:=fun w'=>w'.cell? ⟨gb101,0,none⟩=some (.int .i64 am)∧w'.cell? ⟨gb101,1,none⟩=some (.int .i64 a1_1)∧w'.cell? ⟨gb101,2,none⟩=some (.float .f64 a1_2)∧w'.cell? ⟨gb101,3,none⟩=some (.string a1_3)) (ds:=[]) #[false,false,false,false,false,false,false,false] (by kernel_rfl) rfl rfl ⟨(ab q.out 0).trans rfl,(ab q.out 1).trans rfl,(ab q.out 2).trans rfl,(ab q.out 3).trans rfl⟩ (fun hHeld=>?_);refine cw cZ.tab7 cZ.bits7 (fun HT_ HW_=>?_);generalize w24.drew=w26 at J q z D hHeld⊢;refine puT 0 25 HT_ ?_;refine taT 3 28 HT_ HW_ hHeld ?_;refine onT 1 (some 26) HT_ (fun K U=>?_);refine fG (w1:=?_) (v:=?_) rfl rfl ?_ ?_;rotate_left 2
     ·go_simp
      constructor;·rfl
      ·rfl
     refine U.out _ _ ⟨(ab (ar q.out _) 0).trans rfl,(ab (ar q.out _) 1).trans rfl,(ab (ar q.out _) 2).trans rfl,(ab (ar q.out _) 3).trans rfl⟩ (fun hHeld=>?_);clear U K;refine nmS ?_;refine onT 2 (some 27) HT_ (fun K U=>?_);refine Kd.R_append_step (Kd.int .u8) (w0:=w0) w0.heap.size rfl (.tmp 25) (.tmp 26) 66 5 (.int .u8 0) 1 rfl Tryz.underlying66 b8 rfl (by decide) (by omega) u9000_ l0 4 [.int .u8 4] (fun y=>(ap y∨w.heap.size≤y)) (fun _=>False) rfl rfl ?aP (fun _ hk=>hk.elim) ?aF ?aO ?aB ?aS ?aL ?_
     (case aP=>exact rfl)
     (case aB=>exact D.out)
     (case aF=>exact(fun y hk=>(.inr (rK z.out.1 hk))))
     (case aO=>exact J.out)
     (case aS=>exact(ay D.out))
     (case aL=>have:=LMc21.out;omega)
     intro v115 w27 ho G hg hat;rw [←Ny114.out]at ho;have V:=aa.mk (bC q.out hg (Kd.R_ne J.out q.out (by decide)));have X:=aa.mk (G);have Y:=aa.mk (bV.of_grown (S:=(fun y=>ap y)) hg z.out (fun y e_=>(J.out.1 y e_)));have Z:=aa.mk (ho);clear q D z J;have q:=V;have D:=X;have z:=Y;have HO116:=Z;clear V X Y Z ho G hg hat;refine U.out _ _ ⟨(ab q.out 0).trans rfl,(ab q.out 1).trans rfl,(ab q.out 2).trans rfl,(ab q.out 3).trans rfl⟩ (fun hHeld=>?_);clear U K;refine nmS ?_;refine onT 4 (some 29) HT_ (fun K U=>?_);refine dQ Tryz.func143 (by kernel_rfl) rfl #[.agg #[.int .i64 am, .int .i64 a1_1, .float .f64 a1_2, .string a1_3]] rfl rfl rfl (by(try simp only [List.map_toArray,List.map_cons,List.map_nil]);rfl) ?_
     with_reducible refine(bQ.calls am a1_1 a1_2 a1_3 t117 t118 t119 t120 _ A22.out).mono ?_
     rintro e w28 ⟨rfl,G⟩;refine⟨_,rfl,?_⟩;have V:=aa.mk (Kd.R_below HO116.out G);have X:=bbO q G;have Y:=aa.mk (bV.below (S:=(fun y=>ap y)) z.out G);have Z:=bsO D G;clear HO116 q z D;have HO116:=V;have q:=X;have z:=Y;have D:=Z;clear V X Y Z
     (try clear G)
     obtain⟨Ao29,co29,eo29⟩:=Kd.R_slice HO116.out
     (subst eo29)
     refine U.out _ _ ⟨(ab q.out 0).trans rfl,(ab q.out 1).trans rfl,(ab q.out 2).trans rfl,(ab q.out 3).trans rfl⟩ (fun hHeld=>?_);clear U K;refine nmS ?_;refine puT 5 30 HT_ ?_;refine onT 6 (some 31) HT_ (fun K U=>?_);refine dQ Tryz.func142 (by kernel_rfl) rfl #[.slice Ao29 y114.length co29, .float .f64 t119] rfl rfl rfl (by(try simp only [List.map_toArray,List.map_cons,List.map_nil]);rfl) ?_
     with_reducible refine(cx.calls k (fun y=>some y=(.slice Ao29 y114.length co29:Value).ownBlock) (.slice Ao29 y114.length co29) y114 t119 t121 w0 _ ?side1 ?side2 A23.out).mono ?_
     (case side1=>repeat(with_reducible exact D.out))
     (case side2=>exact Kd.R_tight rfl HO116.out)
     rintro e w30 ⟨v122,rfl,ho0,G,hkp⟩;refine⟨_,rfl,?_⟩;have V:=aa.mk (dM q.out hkp (fun hs_=>(fun e_=>(Kd.R_ne HO116.out q.out (by decide)) e_) hs_));have X:=aa.mk (Kd.R_mono (ok':=fun y=>(ap y∨w.heap.size≤y)) ho0 (fun y hk_=>Or.elim hk_ (fun hs_=>(HO116.out.1 y (hs_).symm)) (fun hn_=>(.inr (rK z.out.1 hn_)))));have Y:=aa.mk (bV.then_ (S:=(fun y=>ap y)) z.out hkp (fun y hs_=>(fun e_=>(HO116.out.1 y e_.symm)) hs_));have Z:=aa.mk (G);clear q z D HO116;have q:=V;have HO123:=X;have z:=Y;have D:=Z;clear V X Y Z
     (try clear G)
     (try clear hkp)
     (try clear ho0)
     refine U.out _ _ ⟨(ab q.out 0).trans rfl,(ab q.out 1).trans rfl,(ab q.out 2).trans rfl,(ab q.out 3).trans rfl⟩ (fun hHeld=>?_);clear U K;refine nmS ?_;refine puT 7 4 HT_ ?_;refine dp (di HT_.out (by kernel_rfl)) ?_;try go_wp2
     go_ret;exact⟨_,by rfl,by exact HO123.out,by exact D.out,by exact z.out⟩
    ·rw [rq c21]at H
     exact absurd H (by simp)
   ·rw [if_neg c20]at H
    have c20b0:(am==3)=false:=ry.mpr c20;by_cases c31:am=4
    ·rw [rp c31]at H
     have c31b0:(am==4)=true:=rI.mpr c31;clear c31;by_cases c32:l0.length<140737488355328
     ·rw [rp c32]at H
      have LMc32:=aa.mk c32;clear c32;obtain⟨y124,hy124⟩:∃y_:List Int,y_=(l0++ [5]):=⟨_,rfl⟩;replace H:((b9.f y124 a1_3).bind fun t127=>(some t127))=some r:=by(rw [hy124];with_reducible exact H)
      have Ny124:=aa.mk hy124;clear hy124;replace H:=rB.mp H;obtain⟨t127,A330,H⟩:=H;replace H:(some t127)=some r:=H;have A33:=aa.mk A330;clear A330;obtain rfl:=rD H;go_enter Tryz.func108,Tryz.ntmps108;try go_wp2_with (((with_reducible refine aM (N:=3) rfl ?_);refine aI ?hg (N:=3) ?hd (cs:= #[.int .i64 am, .int .i64 a1_1, .float .f64 a1_2, .string a1_3]) (t:=84) ?hr ?_;(case hd=>rfl);(case hg=>rfl);(case hr=>(go_simp;done));intro gb101 hg w34 hbox G;replace J:=aa.mk (Kd.R_below J.out G);have q:=aa.mk hbox;replace z:=aa.mk (bV.below (S:=(fun y=>ap y)) z.out G);replace D:=bsO D G;clear G hbox hg;obtain⟨hcz35_0,hcz35_1,hcz35_2,hcz35_3,hfz35_0,hfz35_1,hfz35_2,hfz35_3⟩:=cz4 q))
      have V:=aa.mk (Kd.R_drew J.out);have X:=aa.mk (aN q.out);have Y:=aa.mk (bV.drew z.out);have Z:=aa.mk (aJ D.out);clear J q z D;have J:=V;have q:=X;have z:=Y;have D:=Z;clear V X Y Z;refine cH (n:=7) (S:=fun w'=>w'.cell? ⟨gb101,0,none⟩=some (.int .i64 am)∧w'.cell? ⟨gb101,1,none⟩=some (.int .i64 a1_1)∧w'.cell? ⟨gb101,2,none⟩=some (.float .f64 a1_2)∧w'.cell? ⟨gb101,3,none⟩=some (.string a1_3)) (ds:=[]) #[false,false,false,false,false,false,false] (by kernel_rfl) rfl rfl ⟨(ab q.out 0).trans rfl,(ab q.out 1).trans rfl,(ab q.out 2).trans rfl,(ab q.out 3).trans rfl⟩ (fun hHeld=>?_);generalize w34.drew=w36 at J q z D hHeld⊢;refine puK 0 34 ?_;refine puK 3 37 ?_;refine taK 4 38 hHeld ?_;refine onK 1 (some 35) (fun K U=>?_);refine fG (w1:=?_) (v:=?_) rfl rfl ?_ ?_;rotate_left 2
      ·go_simp
       constructor;·rfl
       ·rfl
      refine U.out _ _ ⟨(ab (ar q.out _) 0).trans rfl,(ab (ar q.out _) 1).trans rfl,(ab (ar q.out _) 2).trans rfl,(ab (ar q.out _) 3).trans rfl⟩ (fun hHeld=>?_);clear U K;refine nmS ?_;refine onK 2 (some 36) (fun K U=>?_);refine Kd.R_append_step (Kd.int .u8) (w0:=w0) w0.heap.size rfl (.tmp 34) (.tmp 35) 66 5 (.int .u8 0) 1 rfl Tryz.underlying66 b8 rfl (by decide) (by omega) u9000_ l0 5 [.int .u8 5] (fun y=>(ap y∨w.heap.size≤y)) (fun _=>False) rfl rfl ?aP (fun _ hk=>hk.elim) ?aF ?aO ?aB ?aS ?aL ?_
      (case aP=>exact rfl)
      (case aB=>exact D.out)
      (case aF=>exact(fun y hk=>(.inr (rK z.out.1 hk))))
      (case aO=>exact J.out)
      (case aS=>exact(ay D.out))
      (case aL=>have:=LMc32.out;omega)
      intro v125 w37 ho G hg hat;rw [←Ny124.out]at ho;have V:=aa.mk (bC q.out hg (Kd.R_ne J.out q.out (by decide)));have X:=aa.mk (G);have Y:=aa.mk (bV.of_grown (S:=(fun y=>ap y)) hg z.out (fun y e_=>(J.out.1 y e_)));have Z:=aa.mk (ho);clear q D z J;have q:=V;have D:=X;have z:=Y;have HO126:=Z;clear V X Y Z ho G hg hat;obtain⟨Ao38,co38,eo38⟩:=Kd.R_slice HO126.out
      (subst eo38)
      refine U.out _ _ ⟨(ab q.out 0).trans rfl,(ab q.out 1).trans rfl,(ab q.out 2).trans rfl,(ab q.out 3).trans rfl⟩ (fun hHeld=>?_);clear U K;refine nmS ?_;refine onK 5 (some 39) (fun K U=>?_);refine dQ Tryz.func144 (by kernel_rfl) rfl #[.slice Ao38 y124.length co38, .string a1_3] rfl rfl rfl (by(try simp only [List.map_toArray,List.map_cons,List.map_nil]);rfl) ?_
      with_reducible refine(b9.calls (fun y=>some y=(.slice Ao38 y124.length co38:Value).ownBlock) (.slice Ao38 y124.length co38) y124 a1_3 t127 w0 _ ?side1 ?side2 ?side3 A33.out).mono ?_
      (case side1=>repeat(with_reducible exact D.out))
      (case side2=>exact Kd.R_tight rfl HO126.out)
      (case side3=>exact HGT.out)
      rintro e w39 ⟨v128,rfl,ho0,G,hkp⟩;refine⟨_,rfl,?_⟩;have V:=aa.mk (dM q.out hkp (fun hs_=>(fun e_=>(Kd.R_ne HO126.out q.out (by decide)) e_) hs_));have X:=aa.mk (Kd.R_mono (ok':=fun y=>(ap y∨w.heap.size≤y)) ho0 (fun y hk_=>Or.elim hk_ (fun hs_=>(HO126.out.1 y (hs_).symm)) (fun hn_=>(.inr (rK z.out.1 hn_)))));have Y:=aa.mk (bV.then_ (S:=(fun y=>ap y)) z.out hkp (fun y hs_=>(fun e_=>(HO126.out.1 y e_.symm)) hs_));have Z:=aa.mk (G);clear q z D HO126;have q:=V;have HO129:=X;have z:=Y;have D:=Z;clear V X Y Z
      (try clear G)
      (try clear hkp)
      (try clear ho0)
      refine U.out _ _ ⟨(ab q.out 0).trans rfl,(ab q.out 1).trans rfl,(ab q.out 2).trans rfl,(ab q.out 3).trans rfl⟩ (fun hHeld=>?_);clear U K;refine nmS ?_;refine puK 6 4 ?_;refine dp (by kernel_rfl) ?_;try go_wp2
      go_ret;exact⟨_,by rfl,by exact HO129.out,by exact D.out,by exact z.out⟩
     ·rw [rq c32]at H
      exact absurd H (by simp)
    ·rw [if_neg c31]at H
     have c31b0:(am==4)=false:=ry.mpr c31;by_cases c40:am=5
     ·rw [rp c40]at H
      have c40b0:(am==5)=true:=rI.mpr c40;clear c40;by_cases c41:l0.length<140737488355328
      ·rw [rp c41]at H
       have LMc41:=aa.mk c41;clear c41;obtain⟨y130,hy130⟩:∃y_:List Int,y_=(l0++ [6]):=⟨_,rfl⟩;replace H:((b9.f y130 a1_3).bind fun t133=>(some t133))=some r:=by(rw [hy130];with_reducible exact H)
       have Ny130:=aa.mk hy130;clear hy130;replace H:=rB.mp H;obtain⟨t133,A420,H⟩:=H;replace H:(some t133)=some r:=H;have A42:=aa.mk A420;clear A420;obtain rfl:=rD H;go_enter Tryz.func108,Tryz.ntmps108;try go_wp2_with (((with_reducible refine aM (N:=3) rfl ?_);refine aI ?hg (N:=3) ?hd (cs:= #[.int .i64 am, .int .i64 a1_1, .float .f64 a1_2, .string a1_3]) (t:=84) ?hr ?_;(case hd=>rfl);(case hg=>rfl);(case hr=>(go_simp;done));intro gb101 hg w43 hbox G;replace J:=aa.mk (Kd.R_below J.out G);have q:=aa.mk hbox;replace z:=aa.mk (bV.below (S:=(fun y=>ap y)) z.out G);replace D:=bsO D G;clear G hbox hg;obtain⟨hcz44_0,hcz44_1,hcz44_2,hcz44_3,hfz44_0,hfz44_1,hfz44_2,hfz44_3⟩:=cz4 q))
       have V:=aa.mk (Kd.R_drew J.out);have X:=aa.mk (aN q.out);have Y:=aa.mk (bV.drew z.out);have Z:=aa.mk (aJ D.out);clear J q z D;have J:=V;have q:=X;have z:=Y;have D:=Z;clear V X Y Z;refine cH (n:=7) (S:=fun w'=>w'.cell? ⟨gb101,0,none⟩=some (.int .i64 am)∧w'.cell? ⟨gb101,1,none⟩=some (.int .i64 a1_1)∧w'.cell? ⟨gb101,2,none⟩=some (.float .f64 a1_2)∧w'.cell? ⟨gb101,3,none⟩=some (.string a1_3)) (ds:=[]) #[false,false,false,false,false,false,false] (by kernel_rfl) rfl rfl ⟨(ab q.out 0).trans rfl,(ab q.out 1).trans rfl,(ab q.out 2).trans rfl,(ab q.out 3).trans rfl⟩ (fun hHeld=>?_);generalize w43.drew=w45 at J q z D hHeld⊢;refine puK 0 42 ?_;refine puK 3 45 ?_;refine taK 4 46 hHeld ?_;refine onK 1 (some 43) (fun K U=>?_);refine fG (w1:=?_) (v:=?_) rfl rfl ?_ ?_;rotate_left 2
       ·go_simp
        constructor;·rfl
        ·rfl
       refine U.out _ _ ⟨(ab (ar q.out _) 0).trans rfl,(ab (ar q.out _) 1).trans rfl,(ab (ar q.out _) 2).trans rfl,(ab (ar q.out _) 3).trans rfl⟩ (fun hHeld=>?_);clear U K;refine nmS ?_;refine onK 2 (some 44) (fun K U=>?_);refine Kd.R_append_step (Kd.int .u8) (w0:=w0) w0.heap.size rfl (.tmp 42) (.tmp 43) 66 5 (.int .u8 0) 1 rfl Tryz.underlying66 b8 rfl (by decide) (by omega) u9000_ l0 6 [.int .u8 6] (fun y=>(ap y∨w.heap.size≤y)) (fun _=>False) rfl rfl ?aP (fun _ hk=>hk.elim) ?aF ?aO ?aB ?aS ?aL ?_
       (case aP=>exact rfl)
       (case aB=>exact D.out)
       (case aF=>exact(fun y hk=>(.inr (rK z.out.1 hk))))
       (case aO=>exact J.out)
       (case aS=>exact(ay D.out))
       (case aL=>have:=LMc41.out;omega)
       intro v131 w46 ho G hg hat;rw [←Ny130.out]at ho;have V:=aa.mk (bC q.out hg (Kd.R_ne J.out q.out (by decide)));have X:=aa.mk (G);have Y:=aa.mk (bV.of_grown (S:=(fun y=>ap y)) hg z.out (fun y e_=>(J.out.1 y e_)));have Z:=aa.mk (ho);clear q D z J;have q:=V;have D:=X;have z:=Y;have HO132:=Z;clear V X Y Z ho G hg hat;obtain⟨Ao47,co47,eo47⟩:=Kd.R_slice HO132.out
       (subst eo47)
       refine U.out _ _ ⟨(ab q.out 0).trans rfl,(ab q.out 1).trans rfl,(ab q.out 2).trans rfl,(ab q.out 3).trans rfl⟩ (fun hHeld=>?_);clear U K;refine nmS ?_;refine onK 5 (some 47) (fun K U=>?_);refine dQ Tryz.func144 (by kernel_rfl) rfl #[.slice Ao47 y130.length co47, .string a1_3] rfl rfl rfl (by(try simp only [List.map_toArray,List.map_cons,List.map_nil]);rfl) ?_
       with_reducible refine(b9.calls (fun y=>some y=(.slice Ao47 y130.length co47:Value).ownBlock) (.slice Ao47 y130.length co47) y130 a1_3 t133 w0 _ ?side1 ?side2 ?side3 A42.out).mono ?_
       (case side1=>repeat(with_reducible exact D.out))
       (case side2=>exact Kd.R_tight rfl HO132.out)
       (case side3=>exact HGT.out)
       rintro e w48 ⟨v134,rfl,ho0,G,hkp⟩;refine⟨_,rfl,?_⟩;have V:=aa.mk (dM q.out hkp (fun hs_=>(fun e_=>(Kd.R_ne HO132.out q.out (by decide)) e_) hs_));have X:=aa.mk (Kd.R_mono (ok':=fun y=>(ap y∨w.heap.size≤y)) ho0 (fun y hk_=>Or.elim hk_ (fun hs_=>(HO132.out.1 y (hs_).symm)) (fun hn_=>(.inr (rK z.out.1 hn_)))));have Y:=aa.mk (bV.then_ (S:=(fun y=>ap y)) z.out hkp (fun y hs_=>(fun e_=>(HO132.out.1 y e_.symm)) hs_));have Z:=aa.mk (G);clear q z D HO132;have q:=V;have HO135:=X;have z:=Y;have D:=Z;clear V X Y Z
       (try clear G)
       (try clear hkp)
       (try clear ho0)
       refine U.out _ _ ⟨(ab q.out 0).trans rfl,(ab q.out 1).trans rfl,(ab q.out 2).trans rfl,(ab q.out 3).trans rfl⟩ (fun hHeld=>?_);clear U K;refine nmS ?_;refine puK 6 4 ?_;refine dp (by kernel_rfl) ?_;try go_wp2
       go_ret;exact⟨_,by rfl,by exact HO135.out,by exact D.out,by exact z.out⟩
      ·rw [rq c41]at H
       exact absurd H (by simp)
     ·rw [if_neg c40]at H
      have c40b0:(am==5)=false:=ry.mpr c40;by_cases c49:l0.length<140737488355328
      ·rw [rp c49]at H
       have LMc49:=aa.mk c49;clear c49;obtain⟨y136,hy136⟩:∃y_:List Int,y_=(l0++ [1]):=⟨_,rfl⟩;replace H:(some y136)=some r:=by(rw [hy136];with_reducible exact H)
       have Ny136:=aa.mk hy136;clear hy136;obtain rfl:=rD H;go_enter Tryz.func108,Tryz.ntmps108;go_wp2_with (first|((with_reducible refine aM (N:=3) rfl ?_);refine aI ?hg (N:=3) ?hd (cs:= #[.int .i64 am, .int .i64 a1_1, .float .f64 a1_2, .string a1_3]) (t:=84) ?hr ?_;(case hd=>rfl);(case hg=>rfl);(case hr=>(go_simp;done));intro gb101 hg w50 hbox G;replace J:=aa.mk (Kd.R_below J.out G);have q:=aa.mk hbox;replace z:=aa.mk (bV.below (S:=(fun y=>ap y)) z.out G);replace D:=bsO D G;clear G hbox hg;obtain⟨hcz51_0,hcz51_1,hcz51_2,hcz51_3,hfz51_0,hfz51_1,hfz51_2,hfz51_3⟩:=cz4 q)|((with_reducible refine aZ (b:= .append) (xs:= #[.tmp 48, .tmp 49]) rfl ?_);at_builtin;refine Kd.R_append (Kd.int .u8) (w0:=w0) w0.heap.size rfl (.tmp 48) (.tmp 49) 66 5 (.int .u8 0) 1 rfl Tryz.underlying66 b8 rfl (by decide) (by omega) u9000_ l0 1 [.int .u8 1] (fun y=>(ap y∨w.heap.size≤y)) (fun _=>False) rfl rfl ?aP (fun _ hk=>hk.elim) ?aF ?aO ?aB ?aS ?aL ?_;(case aP=>exact rfl);(case aB=>exact D.out);(case aF=>exact(fun y hk=>(.inr (rK z.out.1 hk))));(case aO=>exact J.out);(case aS=>exact(ay D.out));(case aL=>have:=LMc49.out;omega);intro v137 w52 ho G hg hat;rw [←Ny136.out]at ho;replace q:=aa.mk (bC q.out hg (Kd.R_ne J.out q.out (by decide)));replace D:=aa.mk (G);replace z:=aa.mk (bV.of_grown (S:=(fun y=>ap y)) hg z.out (fun y e_=>(J.out.1 y e_)));have HO138:=aa.mk (ho);clear J;clear ho G hg hat));go_ret;exact⟨_,by rfl,by exact HO138.out,by exact D.out,by exact z.out⟩
      ·rw [rq c49]at H
       exact absurd H (by simp)
def bF.f(k:Nat)(q:Int)(r:Int)(z:Nat)(y:ByteArray):Option (List Int):=(some (([(wrap64 (q+1))%256]:List Int):List Int)).bind fun h=>(if q=1 then(if h.length<140737488355328 then(some (h++ [(r)%256]))else(none))else(if q=2 then((bN.f k r).bind fun t146=>(if h.length+t146.length<140737488355328 then(some (h++t146))else(none)))else(if q=3 then((aU.f k z).bind fun t152=>(if h.length+t152.length<140737488355328 then(some (h++t152))else(none)))else(if q=4 then((aW.f k y).bind fun t158=>(if h.length+t158.length<140737488355328 then(some (h++t158))else(none)))else(if q=5 then((aW.f k y).bind fun t164=>(if h.length+t164.length<140737488355328 then(some (h++t164))else(none)))else(some h))))))
theorem bF.mono:∀a0 h q a3 k,LeO (bF.f k a0 h q a3) (bF.f (k+1) a0 h q a3):=by
 intro a0 h q a3 k;unfold bF.f
 repeat' first|(with_reducible exact aW.mono _ _)|(with_reducible exact aU.mono _ _)|(with_reducible exact bN.mono _ _)|(with_reducible exact LeO.refl _)|(with_reducible exact LeO.none _)|(with_reducible refine LeO.ite ?_ ?_)|(with_reducible refine LeO.bind ?_ (fun _=>?_))|exact aW.mono _ _|exact aU.mono _ _|exact bN.mono _ _|exact LeO.none _|refine LeO.ite ?_ ?_|refine LeO.bind ?_ (fun _=>?_)
set_option maxHeartbeats 8000000 in
set_option maxRecDepth 100000 in
theorem bF.calls(k:Nat)(z:Int)(X:Int)(av:Nat)(am:ByteArray)(r:List Int)(w:World)(h:bF.f k z X av am=some r):
 Calls Tryz.prog 90 #[.agg #[.int .i64 z, .int .i64 X, .float .f64 av, .string am]] w fun e w'=>∃v0_:Value,e= .returned (v0_)∧Kd.R (Kd.int .u8) 5 w' w.heap.size (fun _=>True) v0_ r∧Below w.heap.size w w':=by
 have y:=aa.mk (rr w.heap.size w);have H:((some (([(wrap64 (z+1))%256]:List Int):List Int)).bind fun G=>(if z=1 then(if G.length<140737488355328 then(some (G++ [(X)%256]))else(none))else(if z=2 then((bN.f k X).bind fun t146=>(if G.length+t146.length<140737488355328 then(some (G++t146))else(none)))else(if z=3 then((aU.f k av).bind fun t152=>(if G.length+t152.length<140737488355328 then(some (G++t152))else(none)))else(if z=4 then((aW.f k am).bind fun t158=>(if G.length+t158.length<140737488355328 then(some (G++t158))else(none)))else(if z=5 then((aW.f k am).bind fun t164=>(if G.length+t164.length<140737488355328 then(some (G++t164))else(none)))else(some G)))))))=some r:=h;clear h;obtain⟨G,hy140⟩:∃y_:List Int,y_=(([(wrap64 (z+1))%256]:List Int)):=⟨_,rfl⟩;replace H:(if z=1 then(if G.length<140737488355328 then(some (G++ [(X)%256]))else(none))else(if z=2 then((bN.f k X).bind fun t146=>(if G.length+t146.length<140737488355328 then(some (G++t146))else(none)))else(if z=3 then((aU.f k av).bind fun t152=>(if G.length+t152.length<140737488355328 then(some (G++t152))else(none)))else(if z=4 then((aW.f k am).bind fun t158=>(if G.length+t158.length<140737488355328 then(some (G++t158))else(none)))else(if z=5 then((aW.f k am).bind fun t164=>(if G.length+t164.length<140737488355328 then(some (G++t164))else(none)))else(some G))))))=some r:=by(have H2_:=(rG _ _).symm.trans H;rw [hy140];with_reducible exact H2_)
 have Ny140:=aa.mk hy140;clear hy140;by_cases c2:z=1
 ·rw [rp c2]at H
  have c2b0:(z==1)=true:=rI.mpr c2;clear c2;by_cases c3:G.length<140737488355328
  ·rw [rp c3]at H
   have LMc3:=aa.mk c3;clear c3;obtain⟨y143,hy143⟩:∃y_:List Int,y_=(G++ [(X)%256]):=⟨_,rfl⟩;replace H:(some y143)=some r:=by(rw [hy143];with_reducible exact H)
   have Ny143:=aa.mk hy143;clear hy143;obtain rfl:=rD H;go_enter Tryz.func90,Tryz.ntmps90;go_wp2_with (first|((with_reducible refine aM (N:=1) rfl ?_);refine aI ?hg (N:=1) ?hd (cs:= #[.int .i64 z, .int .i64 X, .float .f64 av, .string am]) (t:=84) ?hr ?_;(case hd=>rfl);(case hg=>rfl);(case hr=>(go_simp;done));intro gb139 hg w4 V q;have D:=aa.mk V;replace y:=bsO y q;clear q V hg;obtain⟨hcz5_0,hcz5_1,hcz5_2,hcz5_3,hfz5_0,hfz5_1,hfz5_2,hfz5_3⟩:=cz4 D)|((with_reducible refine aM (N:=8) rfl ?_);refine Kd.R_lit (Kd.int .u8) _ 5 ?hg (N:=8) ?hd (xs:=([(wrap64 (z+1))%256]:List Int)) (inner:=[.int .u8 ((wrap64 (z+1))%256)]) (ok:=fun _=>True) (okp:=fun _=>True) ?hr ?hp (fun _ U=>U) trivial (rr _ _) (rA _) (by simp) ?_;(case hd=>rfl);(case hg=>rfl);(case hr=>(go_simp;done));(case hp=>exact(dg.one (show Kd.M (Kd.int .u8) _ _ _ ((wrap64 (z+1))%256) [.int .u8 ((wrap64 (z+1))%256)]from rfl) (dg.none _ _)));intro v141 w6 ho7 q a1 a2;clear a1 a2;(rw [←Ny140.out]at ho7);have J:=aa.mk (Kd.R_lower ho7 (ay y.out));replace D:=bbO D q;replace y:=bsO y q;clear q ho7;obtain⟨hcz8_0,hcz8_1,hcz8_2,hcz8_3,hfz8_0,hfz8_1,hfz8_2,hfz8_3⟩:=cz4 D)|((with_reducible refine aZ (b:= .append) (xs:= #[.tmp 13, .tmp 17]) rfl ?_);at_builtin;refine Kd.R_append (Kd.int .u8) (w0:=w) w.heap.size rfl (.tmp 13) (.tmp 17) 66 5 (.int .u8 0) 1 rfl Tryz.underlying66 b8 rfl (by decide) (by omega) v141 G ((X)%256) [.int .u8 ((X)%256)] (fun _=>True) (fun _=>False) rfl rfl ?aP (fun _ U=>U.elim) ?aF ?aO ?aB ?aS ?aL ?_;(case aP=>exact rfl);(case aB=>exact y.out);(case aF=>exact(fun _ _=>trivial));(case aO=>exact J.out);(case aS=>exact(ay y.out));(case aL=>have:=LMc3.out;omega);intro v144 w9 ho q hg ap;rw [←Ny143.out]at ho;replace D:=aa.mk (bC D.out hg (Kd.R_ne J.out D.out (by decide)));replace y:=aa.mk (q);have HO145:=aa.mk (ho);clear J;clear ho q hg ap));go_ret;exact⟨_,by rfl,by exact HO145.out,by exact y.out⟩
  ·rw [rq c3]at H
   exact absurd H (by simp)
 ·rw [if_neg c2]at H
  have c2b0:(z==1)=false:=ry.mpr c2;by_cases c10:z=2
  ·rw [rp c10]at H
   have c10b0:(z==2)=true:=rI.mpr c10;clear c10;replace H:=rB.mp H;obtain⟨t146,A110,H⟩:=H;replace H:(if G.length+t146.length<140737488355328 then(some (G++t146))else(none))=some r:=H;have A11:=aa.mk A110;clear A110;by_cases c12:G.length+t146.length<140737488355328
   ·rw [rp c12]at H
    have LMc12:=aa.mk c12;clear c12;obtain⟨y149,hy149⟩:∃y_:List Int,y_=(G++t146):=⟨_,rfl⟩;replace H:(some y149)=some r:=by(rw [hy149];with_reducible exact H)
    have Ny149:=aa.mk hy149;clear hy149;obtain rfl:=rD H;go_enter Tryz.func90,Tryz.ntmps90;go_wp2_with (first|((with_reducible refine aM (N:=1) rfl ?_);refine aI ?hg (N:=1) ?hd (cs:= #[.int .i64 z, .int .i64 X, .float .f64 av, .string am]) (t:=84) ?hr ?_;(case hd=>rfl);(case hg=>rfl);(case hr=>(go_simp;done));intro gb139 hg w13 V q;have D:=aa.mk V;replace y:=bsO y q;clear q V hg;obtain⟨hcz14_0,hcz14_1,hcz14_2,hcz14_3,hfz14_0,hfz14_1,hfz14_2,hfz14_3⟩:=cz4 D)|((with_reducible refine aM (N:=8) rfl ?_);refine Kd.R_lit (Kd.int .u8) _ 5 ?hg (N:=8) ?hd (xs:=([(wrap64 (z+1))%256]:List Int)) (inner:=[.int .u8 ((wrap64 (z+1))%256)]) (ok:=fun _=>True) (okp:=fun _=>True) ?hr ?hp (fun _ U=>U) trivial (rr _ _) (rA _) (by simp) ?_;(case hd=>rfl);(case hg=>rfl);(case hr=>(go_simp;done));(case hp=>exact(dg.one (show Kd.M (Kd.int .u8) _ _ _ ((wrap64 (z+1))%256) [.int .u8 ((wrap64 (z+1))%256)]from rfl) (dg.none _ _)));intro v141 w15 ho16 q a1 a2;clear a1 a2;(rw [←Ny140.out]at ho16);have J:=aa.mk (Kd.R_lower ho16 (ay y.out));replace D:=bbO D q;replace y:=bsO y q;clear q ho16;obtain⟨hcz17_0,hcz17_1,hcz17_2,hcz17_3,hfz17_0,hfz17_1,hfz17_2,hfz17_3⟩:=cz4 D)|(go_at_call 116;(with_reducible refine(bN.calls k X t146 _ A11.out).mono ?_);rintro e w18 ⟨v147,rfl,Y,q⟩;have HO148:=aa.mk (Kd.R_lower (Kd.R_new' Y (Kd.R_lt J.out)) (ay y.out));replace J:=aa.mk (Kd.R_elder' J.out (Kd.R_base Y) q);replace D:=bbO D q;replace y:=bsO y q;(try clear q);(try clear Y);obtain⟨Ao20,co20,eo20⟩:=Kd.R_slice HO148.out;subst eo20)|((with_reducible refine aZ (b:= .append) (xs:= #[.tmp 21, .tmp 24]) rfl ?_);at_builtin;refine Kd.R_append_rows (Kd.int .u8) (w0:=w) w.heap.size rfl (.tmp 21) (.tmp 24) 66 5 (.int .u8 0) 1 rfl Tryz.underlying66 b8 rfl (by decide) (by omega) v141 G t146 _ _ _ (fun Z=>some Z≠(.slice Ao20 t146.length co20:Value).ownBlock) (fun _=>False) rfl rfl ?aO ?aR (fun _ _ h=>h) (fun _ h=>h.elim) ?aF ?aB ?aS ?aL ?_;(case aR=>repeat(exact(Kd.R_reads' HO148.out).2.2));(case aB=>exact y.out);(case aF=>exact(fun Z U=>Kd.fresh' (Kd.R_lt HO148.out) Z U));(case aO=>exact(by exact Kd.R_mono J.out (fun _ U=>U.2)));(case aS=>exact(ay y.out));(case aL=>have:=LMc12.out;omega);intro v150 w19 ho q hg ap;rw [←Ny149.out]at ho;replace D:=aa.mk (bC D.out hg (Kd.R_ne J.out D.out (by decide)));replace HO148:=aa.mk (Kd.R_after (ok:=(fun _=>True)) HO148.out hg ap);replace y:=aa.mk (q);have HO151:=aa.mk (ho);clear J;clear ho q hg ap));go_ret;exact⟨_,by rfl,by exact Kd.R_mono HO151.out (fun _ U=>trivial),by exact y.out⟩
   ·rw [rq c12]at H
    exact absurd H (by simp)
  ·rw [if_neg c10]at H
   have c10b0:(z==2)=false:=ry.mpr c10;by_cases c21:z=3
   ·rw [rp c21]at H
    have c21b0:(z==3)=true:=rI.mpr c21;clear c21;replace H:=rB.mp H;obtain⟨t152,A220,H⟩:=H;replace H:(if G.length+t152.length<140737488355328 then(some (G++t152))else(none))=some r:=H;have A22:=aa.mk A220;clear A220;by_cases c23:G.length+t152.length<140737488355328
    ·rw [rp c23]at H
     have LMc23:=aa.mk c23;clear c23;obtain⟨y155,hy155⟩:∃y_:List Int,y_=(G++t152):=⟨_,rfl⟩;replace H:(some y155)=some r:=by(rw [hy155];with_reducible exact H)
     have Ny155:=aa.mk hy155;clear hy155;obtain rfl:=rD H;go_enter Tryz.func90,Tryz.ntmps90;go_wp2_with (first|((with_reducible refine aM (N:=1) rfl ?_);refine aI ?hg (N:=1) ?hd (cs:= #[.int .i64 z, .int .i64 X, .float .f64 av, .string am]) (t:=84) ?hr ?_;(case hd=>rfl);(case hg=>rfl);(case hr=>(go_simp;done));intro gb139 hg w24 V q;have D:=aa.mk V;replace y:=bsO y q;clear q V hg;obtain⟨hcz25_0,hcz25_1,hcz25_2,hcz25_3,hfz25_0,hfz25_1,hfz25_2,hfz25_3⟩:=cz4 D)|((with_reducible refine aM (N:=8) rfl ?_);refine Kd.R_lit (Kd.int .u8) _ 5 ?hg (N:=8) ?hd (xs:=([(wrap64 (z+1))%256]:List Int)) (inner:=[.int .u8 ((wrap64 (z+1))%256)]) (ok:=fun _=>True) (okp:=fun _=>True) ?hr ?hp (fun _ U=>U) trivial (rr _ _) (rA _) (by simp) ?_;(case hd=>rfl);(case hg=>rfl);(case hr=>(go_simp;done));(case hp=>exact(dg.one (show Kd.M (Kd.int .u8) _ _ _ ((wrap64 (z+1))%256) [.int .u8 ((wrap64 (z+1))%256)]from rfl) (dg.none _ _)));intro v141 w26 ho27 q a1 a2;clear a1 a2;(rw [←Ny140.out]at ho27);have J:=aa.mk (Kd.R_lower ho27 (ay y.out));replace D:=bbO D q;replace y:=bsO y q;clear q ho27;obtain⟨hcz28_0,hcz28_1,hcz28_2,hcz28_3,hfz28_0,hfz28_1,hfz28_2,hfz28_3⟩:=cz4 D)|(go_at_call 117;(with_reducible refine(aU.calls k av t152 _ A22.out).mono ?_);rintro e w29 ⟨v153,rfl,Y,q⟩;have HO154:=aa.mk (Kd.R_lower (Kd.R_new' Y (Kd.R_lt J.out)) (ay y.out));replace J:=aa.mk (Kd.R_elder' J.out (Kd.R_base Y) q);replace D:=bbO D q;replace y:=bsO y q;(try clear q);(try clear Y);obtain⟨Ao31,co31,eo31⟩:=Kd.R_slice HO154.out;subst eo31)|((with_reducible refine aZ (b:= .append) (xs:= #[.tmp 28, .tmp 31]) rfl ?_);at_builtin;refine Kd.R_append_rows (Kd.int .u8) (w0:=w) w.heap.size rfl (.tmp 28) (.tmp 31) 66 5 (.int .u8 0) 1 rfl Tryz.underlying66 b8 rfl (by decide) (by omega) v141 G t152 _ _ _ (fun Z=>some Z≠(.slice Ao31 t152.length co31:Value).ownBlock) (fun _=>False) rfl rfl ?aO ?aR (fun _ _ h=>h) (fun _ h=>h.elim) ?aF ?aB ?aS ?aL ?_;(case aR=>repeat(exact(Kd.R_reads' HO154.out).2.2));(case aB=>exact y.out);(case aF=>exact(fun Z U=>Kd.fresh' (Kd.R_lt HO154.out) Z U));(case aO=>exact(by exact Kd.R_mono J.out (fun _ U=>U.2)));(case aS=>exact(ay y.out));(case aL=>have:=LMc23.out;omega);intro v156 w30 ho q hg ap;rw [←Ny155.out]at ho;replace D:=aa.mk (bC D.out hg (Kd.R_ne J.out D.out (by decide)));replace HO154:=aa.mk (Kd.R_after (ok:=(fun _=>True)) HO154.out hg ap);replace y:=aa.mk (q);have HO157:=aa.mk (ho);clear J;clear ho q hg ap));go_ret;exact⟨_,by rfl,by exact Kd.R_mono HO157.out (fun _ U=>trivial),by exact y.out⟩
    ·rw [rq c23]at H
     exact absurd H (by simp)
   ·rw [if_neg c21]at H
    have c21b0:(z==3)=false:=ry.mpr c21;by_cases c32:z=4
    ·rw [rp c32]at H
     have c32b0:(z==4)=true:=rI.mpr c32;clear c32;replace H:=rB.mp H;obtain⟨t158,A330,H⟩:=H;replace H:(if G.length+t158.length<140737488355328 then(some (G++t158))else(none))=some r:=H;have A33:=aa.mk A330;clear A330;by_cases c34:G.length+t158.length<140737488355328
     ·rw [rp c34]at H
      have LMc34:=aa.mk c34;clear c34;obtain⟨y161,hy161⟩:∃y_:List Int,y_=(G++t158):=⟨_,rfl⟩;replace H:(some y161)=some r:=by(rw [hy161];with_reducible exact H)
      have Ny161:=aa.mk hy161;clear hy161;obtain rfl:=rD H;go_enter Tryz.func90,Tryz.ntmps90;go_wp2_with (first|((with_reducible refine aM (N:=1) rfl ?_);refine aI ?hg (N:=1) ?hd (cs:= #[.int .i64 z, .int .i64 X, .float .f64 av, .string am]) (t:=84) ?hr ?_;(case hd=>rfl);(case hg=>rfl);(case hr=>(go_simp;done));intro gb139 hg w35 V q;have D:=aa.mk V;replace y:=bsO y q;clear q V hg;obtain⟨hcz36_0,hcz36_1,hcz36_2,hcz36_3,hfz36_0,hfz36_1,hfz36_2,hfz36_3⟩:=cz4 D)|((with_reducible refine aM (N:=8) rfl ?_);refine Kd.R_lit (Kd.int .u8) _ 5 ?hg (N:=8) ?hd (xs:=([(wrap64 (z+1))%256]:List Int)) (inner:=[.int .u8 ((wrap64 (z+1))%256)]) (ok:=fun _=>True) (okp:=fun _=>True) ?hr ?hp (fun _ U=>U) trivial (rr _ _) (rA _) (by simp) ?_;(case hd=>rfl);(case hg=>rfl);(case hr=>(go_simp;done));(case hp=>exact(dg.one (show Kd.M (Kd.int .u8) _ _ _ ((wrap64 (z+1))%256) [.int .u8 ((wrap64 (z+1))%256)]from rfl) (dg.none _ _)));intro v141 w37 ho38 q a1 a2;clear a1 a2;(rw [←Ny140.out]at ho38);have J:=aa.mk (Kd.R_lower ho38 (ay y.out));replace D:=bbO D q;replace y:=bsO y q;clear q ho38;obtain⟨hcz39_0,hcz39_1,hcz39_2,hcz39_3,hfz39_0,hfz39_1,hfz39_2,hfz39_3⟩:=cz4 D)|(go_at_call 118;(with_reducible refine(aW.calls k am t158 _ A33.out).mono ?_);rintro e w40 ⟨v159,rfl,Y,q⟩;have HO160:=aa.mk (Kd.R_lower (Kd.R_new' Y (Kd.R_lt J.out)) (ay y.out));replace J:=aa.mk (Kd.R_elder' J.out (Kd.R_base Y) q);replace D:=bbO D q;replace y:=bsO y q;(try clear q);(try clear Y);obtain⟨Ao42,co42,eo42⟩:=Kd.R_slice HO160.out;subst eo42)|((with_reducible refine aZ (b:= .append) (xs:= #[.tmp 36, .tmp 39]) rfl ?_);at_builtin;refine Kd.R_append_rows (Kd.int .u8) (w0:=w) w.heap.size rfl (.tmp 36) (.tmp 39) 66 5 (.int .u8 0) 1 rfl Tryz.underlying66 b8 rfl (by decide) (by omega) v141 G t158 _ _ _ (fun Z=>some Z≠(.slice Ao42 t158.length co42:Value).ownBlock) (fun _=>False) rfl rfl ?aO ?aR (fun _ _ h=>h) (fun _ h=>h.elim) ?aF ?aB ?aS ?aL ?_;(case aR=>repeat(exact(Kd.R_reads' HO160.out).2.2));(case aB=>exact y.out);(case aF=>exact(fun Z U=>Kd.fresh' (Kd.R_lt HO160.out) Z U));(case aO=>exact(by exact Kd.R_mono J.out (fun _ U=>U.2)));(case aS=>exact(ay y.out));(case aL=>have:=LMc34.out;omega);intro v162 w41 ho q hg ap;rw [←Ny161.out]at ho;replace D:=aa.mk (bC D.out hg (Kd.R_ne J.out D.out (by decide)));replace HO160:=aa.mk (Kd.R_after (ok:=(fun _=>True)) HO160.out hg ap);replace y:=aa.mk (q);have HO163:=aa.mk (ho);clear J;clear ho q hg ap));go_ret;exact⟨_,by rfl,by exact Kd.R_mono HO163.out (fun _ U=>trivial),by exact y.out⟩
     ·rw [rq c34]at H
      exact absurd H (by simp)
    ·rw [if_neg c32]at H
     have c32b0:(z==4)=false:=ry.mpr c32;by_cases c43:z=5
     ·rw [rp c43]at H
      have c43b0:(z==5)=true:=rI.mpr c43;clear c43;replace H:=rB.mp H;obtain⟨t164,A440,H⟩:=H;replace H:(if G.length+t164.length<140737488355328 then(some (G++t164))else(none))=some r:=H;have A44:=aa.mk A440;clear A440;by_cases c45:G.length+t164.length<140737488355328
      ·rw [rp c45]at H
       have LMc45:=aa.mk c45;clear c45;obtain⟨y167,hy167⟩:∃y_:List Int,y_=(G++t164):=⟨_,rfl⟩;replace H:(some y167)=some r:=by(rw [hy167];with_reducible exact H)
       have Ny167:=aa.mk hy167;clear hy167;obtain rfl:=rD H;go_enter Tryz.func90,Tryz.ntmps90;go_wp2_with (first|((with_reducible refine aM (N:=1) rfl ?_);refine aI ?hg (N:=1) ?hd (cs:= #[.int .i64 z, .int .i64 X, .float .f64 av, .string am]) (t:=84) ?hr ?_;(case hd=>rfl);(case hg=>rfl);(case hr=>(go_simp;done));intro gb139 hg w46 V q;have D:=aa.mk V;replace y:=bsO y q;clear q V hg;obtain⟨hcz47_0,hcz47_1,hcz47_2,hcz47_3,hfz47_0,hfz47_1,hfz47_2,hfz47_3⟩:=cz4 D)|((with_reducible refine aM (N:=8) rfl ?_);refine Kd.R_lit (Kd.int .u8) _ 5 ?hg (N:=8) ?hd (xs:=([(wrap64 (z+1))%256]:List Int)) (inner:=[.int .u8 ((wrap64 (z+1))%256)]) (ok:=fun _=>True) (okp:=fun _=>True) ?hr ?hp (fun _ U=>U) trivial (rr _ _) (rA _) (by simp) ?_;(case hd=>rfl);(case hg=>rfl);(case hr=>(go_simp;done));(case hp=>exact(dg.one (show Kd.M (Kd.int .u8) _ _ _ ((wrap64 (z+1))%256) [.int .u8 ((wrap64 (z+1))%256)]from rfl) (dg.none _ _)));intro v141 w48 ho49 q a1 a2;clear a1 a2;(rw [←Ny140.out]at ho49);have J:=aa.mk (Kd.R_lower ho49 (ay y.out));replace D:=bbO D q;replace y:=bsO y q;clear q ho49;obtain⟨hcz50_0,hcz50_1,hcz50_2,hcz50_3,hfz50_0,hfz50_1,hfz50_2,hfz50_3⟩:=cz4 D)|(go_at_call 118;(with_reducible refine(aW.calls k am t164 _ A44.out).mono ?_);rintro e w51 ⟨v165,rfl,Y,q⟩;have HO166:=aa.mk (Kd.R_lower (Kd.R_new' Y (Kd.R_lt J.out)) (ay y.out));replace J:=aa.mk (Kd.R_elder' J.out (Kd.R_base Y) q);replace D:=bbO D q;replace y:=bsO y q;(try clear q);(try clear Y);obtain⟨Ao53,co53,eo53⟩:=Kd.R_slice HO166.out;subst eo53)|((with_reducible refine aZ (b:= .append) (xs:= #[.tmp 36, .tmp 39]) rfl ?_);at_builtin;refine Kd.R_append_rows (Kd.int .u8) (w0:=w) w.heap.size rfl (.tmp 36) (.tmp 39) 66 5 (.int .u8 0) 1 rfl Tryz.underlying66 b8 rfl (by decide) (by omega) v141 G t164 _ _ _ (fun Z=>some Z≠(.slice Ao53 t164.length co53:Value).ownBlock) (fun _=>False) rfl rfl ?aO ?aR (fun _ _ h=>h) (fun _ h=>h.elim) ?aF ?aB ?aS ?aL ?_;(case aR=>repeat(exact(Kd.R_reads' HO166.out).2.2));(case aB=>exact y.out);(case aF=>exact(fun Z U=>Kd.fresh' (Kd.R_lt HO166.out) Z U));(case aO=>exact(by exact Kd.R_mono J.out (fun _ U=>U.2)));(case aS=>exact(ay y.out));(case aL=>have:=LMc45.out;omega);intro v168 w52 ho q hg ap;rw [←Ny167.out]at ho;replace D:=aa.mk (bC D.out hg (Kd.R_ne J.out D.out (by decide)));replace HO166:=aa.mk (Kd.R_after (ok:=(fun _=>True)) HO166.out hg ap);replace y:=aa.mk (q);have HO169:=aa.mk (ho);clear J;clear ho q hg ap));go_ret;exact⟨_,by rfl,by exact Kd.R_mono HO169.out (fun _ U=>trivial),by exact y.out⟩
      ·rw [rq c45]at H
       exact absurd H (by simp)
     ·rw [if_neg c43]at H
      have c43b0:(z==5)=false:=ry.mpr c43;obtain rfl:=rD H;go_enter Tryz.func90,Tryz.ntmps90;go_wp2_with (first|((with_reducible refine aM (N:=1) rfl ?_);refine aI ?hg (N:=1) ?hd (cs:= #[.int .i64 z, .int .i64 X, .float .f64 av, .string am]) (t:=84) ?hr ?_;(case hd=>rfl);(case hg=>rfl);(case hr=>(go_simp;done));intro gb139 hg w54 V q;have D:=aa.mk V;replace y:=bsO y q;clear q V hg;obtain⟨hcz55_0,hcz55_1,hcz55_2,hcz55_3,hfz55_0,hfz55_1,hfz55_2,hfz55_3⟩:=cz4 D)|((with_reducible refine aM (N:=8) rfl ?_);refine Kd.R_lit (Kd.int .u8) _ 5 ?hg (N:=8) ?hd (xs:=([(wrap64 (z+1))%256]:List Int)) (inner:=[.int .u8 ((wrap64 (z+1))%256)]) (ok:=fun _=>True) (okp:=fun _=>True) ?hr ?hp (fun _ U=>U) trivial (rr _ _) (rA _) (by simp) ?_;(case hd=>rfl);(case hg=>rfl);(case hr=>(go_simp;done));(case hp=>exact(dg.one (show Kd.M (Kd.int .u8) _ _ _ ((wrap64 (z+1))%256) [.int .u8 ((wrap64 (z+1))%256)]from rfl) (dg.none _ _)));intro v141 w56 ho57 q a1 a2;clear a1 a2;(rw [←Ny140.out]at ho57);have J:=aa.mk (Kd.R_lower ho57 (ay y.out));replace D:=bbO D q;replace y:=bsO y q;clear q ho57;obtain⟨hcz58_0,hcz58_1,hcz58_2,hcz58_3,hfz58_0,hfz58_1,hfz58_2,hfz58_3⟩:=cz4 D));go_ret;exact⟨_,by rfl,by exact J.out,by exact y.out⟩
end
end Go.Proofs.YtiphlfpainoeiaaGreatDoor.L
