/- Part 14 of the proof of RedoRecords (conditions: none beyond the statement's own guards). -/
import Derived.Test.YtiphlfpainoeiaaGreatDoorQ13
set_option linter.unusedVariables false
set_option linter.unusedSimpArgs false
namespace Go.Proofs.YtiphlfpainoeiaaGreatDoor.L
open Go.RowKit Go.Proofs.YtiphlfpainoeiaaGreatDoorW.PrintWords Go.Proofs.YtiphlfpainoeiaaGreatDoorW.PrintLast Go.Proofs.YtiphlfpainoeiaaGreatDoorW.PrintMore
attribute [local go_sem] cj cB
noncomputable section
mutual
def bE.j0:Nat→List (S48)→Bool→Int→List (S52)→Option (Bool)
 |0,_,_,_,_=>none
 |k+1,y,G,z,r=>if G=true then(some false)else(bE.l0 k y r (r.length:Int) 0 z r)
def bE.l0:Nat→List (S48)→List (S52)→Int→Int→Int→List (S52)→Option (Bool)
 |0,_,_,_,_,_,_=>none
 |k+1,y,q,D,h,z,r=>if h<D then(if 0≤h then(if h<(q.length:Int)then((bk.f k y ((ah q h).f0) ((ah q h).f1) ((ah q h).f2) ((ah q h).f3)).bind fun t330=>(if t330=true then(if h>0 then(if 0≤(wrap64 (h-1))then(if(wrap64 (h-1))<(r.length:Int)then(if((ah q h).f0)<((ah r (wrap64 (h-1))).f0)then(some false)else(if((ah q h).f0)=((ah r (wrap64 (h-1))).f0)then(if((Op.bytesLess (((ah r (wrap64 (h-1))).f1).toList) (((ah q h).f1).toList))=true)then(bE.l0 k y q D (wrap64 (h+1)) z r)else(some false))else(bE.l0 k y q D (wrap64 (h+1)) z r)))else(none))else(none))else(bE.l0 k y q D (wrap64 (h+1)) z r))else(some false)))else(none))else(none))else(some true)
end
def bE.f(k:Nat)(l0:List (S48))(h:Int)(q:List (S52)):Option (Bool):=if h<1 then(bE.j0 k l0 true h q)else(if h>4611686018427387904 then(bE.j0 k l0 true h q)else(bE.j0 k l0 (decide ((q.length:Int)>65536)) h q))
set_option maxHeartbeats 8000000 in
set_option maxRecDepth 100000 in
theorem bE.calls(k:Nat)(A0:Option Addr)(c0:Nat)(l0:List (S48))(V:Int)(A1_1:Option Addr)(c1_1:Nat)(q:List (S52))(r:Bool)(w:World)(hr0:Kd.C k48 w A0 l0.length l0)(hc0:l0.length≤c0)(hr1_1:Kd.C k52 w A1_1 q.length q)(hc1_1:q.length≤c1_1)(hG:GT w)(h:bE.f k l0 V q=some r):
 Calls Tryz.prog 13 #[.slice A0 l0.length c0, .agg #[.int .u64 V, .slice A1_1 q.length c1_1]] w fun e w'=>e= .returned (.bool r)∧Below w.heap.size w w':=by
 have HR0:=aa.mk hr0;have HC0:=aa.mk hc0;clear hr0 hc0;have HR1_1:=aa.mk hr1_1;clear hr1_1 hc1_1;have z:=aa.mk (rr w.heap.size w);have HGT:=aa.mk hG;clear hG;have H:(if V<1 then(bE.j0 k l0 true V q)else(if V>4611686018427387904 then(bE.j0 k l0 true V q)else(bE.j0 k l0 (decide ((q.length:Int)>65536)) V q)))=some r:=h;clear h;have HC3:=aa.mk H;clear H;go_enter Tryz.func13,Tryz.ntmps13;go_upto_region 1 with(((with_reducible refine aM (N:=3) rfl ?_);(try(refine bD rfl ?_;dsimp only));refine aI ?hg (N:=3) ?hd (cs:= #[.int .u64 V, .slice A1_1 q.length c1_1]) (t:=26) ?hr ?_;(case hd=>rfl);(case hg=>rfl);(case hr=>(go_simp;done));intro gb327 hg w4 X D;have G:=aa.mk X;replace z:=bsO z D;clear D X hg));go_cut [21] (fun v21 wc=>∃(kq:Nat) (x21_2:Bool),v21= .bool x21_2∧aa (bE.j0 kq l0 x21_2 V q=some r)∧aa (kq≤k)∧aa (wc.heap[gb327]? =some (.cells #[.int .u64 V,(.slice A1_1 q.length c1_1)] 26 (0,0)))∧aa (Below w.heap.size w wc))
 case first=>
  have H:=HC3.out;clear HC3;by_cases c5:V<1
  ·rw [rp c5]at H
   have c5b0:decide (V<1)=true:=ru c5;clear c5
   (skip)
   have H':=aa.mk H;clear H;obtain⟨hcz6_0,hcz6_1,hfz6_0,hfz6_1⟩:=cz2 G;go_wp2
   go_meet
   case rel=>exact⟨_,(true),rfl,H',⟨by omega⟩,⟨G.out⟩,⟨z.out⟩⟩
  ·rw [rq c5]at H
   have c5b0:decide (V<1)=false:=rC c5;clear c5
   (skip)
   by_cases c7:V>4611686018427387904
   ·rw [rp c7]at H
    have c7b0:decide (4611686018427387904<V)=true:=ru c7;clear c7;have H':=aa.mk H;clear H;obtain⟨hcz8_0,hcz8_1,hfz8_0,hfz8_1⟩:=cz2 G;go_wp2
    go_meet
    case rel=>exact⟨_,(true),rfl,H',⟨by omega⟩,⟨G.out⟩,⟨z.out⟩⟩
   ·rw [rq c7]at H
    have c7b0:decide (4611686018427387904<V)=false:=rC c7;clear c7;have H':=aa.mk H;clear H;obtain⟨hcz9_0,hcz9_1,hfz9_0,hfz9_1⟩:=cz2 G;go_wp2
    go_meet
    case rel=>exact⟨_,(decide ((q.length:Int)>65536)),rfl,H',⟨by omega⟩,⟨G.out⟩,⟨z.out⟩⟩
 case rest=>
  clear HC3;obtain⟨kq,x21_2,rfl,HA,HJ2,G,z⟩:=hcut;cases kq with
  |zero=>exact absurd HA.out (by simp [bE.j0])
  |succ kj2=>
   have H:=HA.out;clear HA;simp only [bE.j0]at H;by_cases c10:x21_2=true
   ·subst c10
    have H1:(some false)=some r:=(by rw [rp rfl]at H;exact H);clear H;have H:=H1;clear H1;obtain rfl:=rD H;go_wp2;go_ret;exact⟨by rfl,by exact z.out⟩
   ·replace c10:=rT.mpr c10
    subst c10;have H1:(bE.l0 kj2 l0 q (q.length:Int) 0 V q)=some r:=(by rw [rq (show¬(false=true)by decide)]at H;exact H);clear H;have H:=H1;clear H1;have H':=aa.mk H;clear H;obtain⟨hcz11_0,hcz11_1,hfz11_0,hfz11_1⟩:=cz2 G;go_wp2
    go_loopg [25] kj2 (fun kq v25 w'=>∃(y:Int),v25= .int .i64 y∧aa (bE.l0 kq l0 q (q.length:Int) y V q=some r)∧aa (kq≤kj2)∧aa (w'.heap[gb327]? =some (.cells #[.int .u64 V,(.slice A1_1 q.length c1_1)] 26 (0,0)))∧aa (Below w.heap.size w w'))
    case atStart=>exact⟨(0),rfl,H',⟨rA _⟩,⟨G.out⟩,⟨z.out⟩⟩
    case round=>
     clear H';clear hcz11_0 hcz11_1 hfz11_0 hfz11_1;obtain⟨y,rfl,HA,HK2,G,z⟩:=hrel;cases gk with
     |zero=>exact absurd HA.out (by simp [bE.l0])
     |succ k2=>
      have H:=HA.out;clear HA;simp only [bE.l0]at H;by_cases c12:y<(q.length:Int)
      ·rw [rp c12]at H
       have c12b0:decide (y<(q.length:Int))=true:=ru c12;clear c12;by_cases c13:0≤y
       ·rw [rp c13]at H
        have c13b0:decide (0≤y)=true:=ru c13;clear c13;by_cases c14:y<(q.length:Int)
        ·rw [rp c14]at H
         have c14b0:decide (y<(q.length:Int))=true:=ru c14;clear c14;replace H:=rB.mp H;obtain⟨t330,A150,H⟩:=H;replace H:(if t330=true then(if y>0 then(if 0≤(wrap64 (y-1))then(if(wrap64 (y-1))<(q.length:Int)then(if((ah q y).f0)<((ah q (wrap64 (y-1))).f0)then(some false)else(if((ah q y).f0)=((ah q (wrap64 (y-1))).f0)then(if((Op.bytesLess (((ah q (wrap64 (y-1))).f1).toList) (((ah q y).f1).toList))=true)then(bE.l0 k2 l0 q (q.length:Int) (wrap64 (y+1)) V q)else(some false))else(bE.l0 k2 l0 q (q.length:Int) (wrap64 (y+1)) V q)))else(none))else(none))else(bE.l0 k2 l0 q (q.length:Int) (wrap64 (y+1)) V q))else(some false))=some r:=H;have A15:=aa.mk A150;clear A150;by_cases c16:t330=true
         ·subst c16
          have H1:(if y>0 then(if 0≤(wrap64 (y-1))then(if(wrap64 (y-1))<(q.length:Int)then(if((ah q y).f0)<((ah q (wrap64 (y-1))).f0)then(some false)else(if((ah q y).f0)=((ah q (wrap64 (y-1))).f0)then(if((Op.bytesLess (((ah q (wrap64 (y-1))).f1).toList) (((ah q y).f1).toList))=true)then(bE.l0 k2 l0 q (q.length:Int) (wrap64 (y+1)) V q)else(some false))else(bE.l0 k2 l0 q (q.length:Int) (wrap64 (y+1)) V q)))else(none))else(none))else(bE.l0 k2 l0 q (q.length:Int) (wrap64 (y+1)) V q))=some r:=(by rw [rp rfl]at H;exact H);clear H;have H:=H1;clear H1;by_cases c17:y>0
          ·rw [rp c17]at H
           have c17b0:decide (0<y)=true:=ru c17;clear c17;obtain⟨U,hji18⟩:∃j_:Int,(wrap64 (y-1))=j_:=⟨_,rfl⟩;replace H:(if 0≤(U)then(if(U)<(q.length:Int)then(if((ah q y).f0)<((ah q (U)).f0)then(some false)else(if((ah q y).f0)=((ah q (U)).f0)then(if((Op.bytesLess (((ah q (U)).f1).toList) (((ah q y).f1).toList))=true)then(bE.l0 k2 l0 q (q.length:Int) (wrap64 (y+1)) V q)else(some false))else(bE.l0 k2 l0 q (q.length:Int) (wrap64 (y+1)) V q)))else(none))else(none))=some r:=by(rw [hji18]at H;exact H)
           have hji18w:(IntKind.i64.wrap (y-1))=U:=(dI _).trans hji18;by_cases c19:0≤(U)
           ·rw [rp c19]at H
            have c19b0:decide (0≤(U))=true:=ru c19;clear c19;by_cases c20:(U)<(q.length:Int)
            ·rw [rp c20]at H
             have c20b0:decide ((U)<(q.length:Int))=true:=ru c20;clear c20;by_cases c21:((ah q y).f0)<((ah q (U)).f0)
             ·rw [rp c21]at H
              have c21b0:decide (((ah q y).f0)<((ah q (U)).f0))=true:=ru c21;clear c21;obtain rfl:=rD H;have am:0≤(y:Int):=dA;have ap:y<(q.length:Int):=dA;obtain⟨ad328,A328_3,c328_3,e328,a2,a6,be,bi,a1,av⟩:=cv HR1_1.out y am ap;cases e328;replace a2:=mvO z a2;replace a6:=mvO z a6;replace be:=mvO z be;replace bi:=mvO z bi;have HR328_3:=aa.mk av;have HC328_3:=aa.mk a1;clear av a1;replace am:=rF am;replace ap:=rF ap;go_wp2_with (first|((with_reducible refine aM (N:=6) rfl ?_);(try(refine bD rfl ?_;dsimp only));refine aI ?hg (N:=6) ?hd (cs:= #[.int .i64 0, .string (⟨#[]⟩:ByteArray), .bool false, .slice none 0 0]) (t:=52) ?hr ?_;(case hd=>rfl);(case hg=>rfl);(case hr=>(go_simp;done));intro gb329 hg w22 X D;have J:=aa.mk X;have Y:=gwO hg z;replace z:=bsO z D;have Z:=nlO hg G;have NB329_327:=ngO hg G;replace G:=bbO G D;clear D X hg;obtain⟨hcz24_0,hcz24_1,hcz24_2,hcz24_3,hfz24_0,hfz24_1,hfz24_2,hfz24_3⟩:=cz4 J)|(go_at_call 27;(with_reducible refine(bk.calls k2 _ _ l0 ((ah q y).f0) ((ah q y).f1) ((ah q y).f2) _ _ ((ah q y).f3) true _ ?side1 ?side2 ?side3 ?side4 ?side5 A15.out).mono ?_);(case side1=>exact Kd.C_below HR0.out (by repeat((with_reducible first|exact z.out|refine ao ?_ Y.out))));(case side2=>exact HC0.out);(case side3=>exact Kd.C_below HR328_3.out (by repeat((with_reducible first|exact z.out|refine ao ?_ Y.out))));(case side4=>exact HC328_3.out);(case side5=>exact GT.now HGT.out (by repeat((with_reducible first|exact z.out|refine ao ?_ Y.out))));rintro e w25 ⟨rfl,D⟩;replace G:=aa.mk (aQ (g:=gb327) (o:= .cells #[.int .u64 V, .slice (some ad328) q.length c1_1] 26 (0,0)) (by refine az ?_ Z.out _;refine az ?_ Z.out _;refine az ?_ Z.out _;refine az ?_ Z.out _;exact G.out) D);replace J:=aa.mk (aQ (g:=gb329) (o:= .cells #[.int .i64 ((ah q y).f0), .string ((ah q y).f1), .bool ((ah q y).f2), .slice A328_3 ((ah q y).f3).length c328_3] 52 (0,0)) (by refine al (cs:= #[.int .i64 ((ah q y).f0), .string ((ah q y).f1), .bool ((ah q y).f2), .slice none 0 0]) ?_ 3 _ rfl;refine al (cs:= #[.int .i64 ((ah q y).f0), .string ((ah q y).f1), .bool false, .slice none 0 0]) ?_ 2 _ rfl;refine al (cs:= #[.int .i64 ((ah q y).f0), .string (⟨#[]⟩:ByteArray), .bool false, .slice none 0 0]) ?_ 1 _ rfl;refine al (cs:= #[.int .i64 0, .string (⟨#[]⟩:ByteArray), .bool false, .slice none 0 0]) ?_ 0 _ rfl;exact J.out) D);replace z:=aa.mk (bn (by repeat((with_reducible first|exact z.out|refine ao ?_ Y.out))) D);(try clear D);obtain⟨hcz26_0,hcz26_1,hfz26_0,hfz26_1⟩:=cz2 G;have p331:0≤((U):Int):=dA;have q331:(U)<(q.length:Int):=dA;obtain⟨ad331,A331_3,c331_3,e331,hx331_0,hx331_1,hx331_2,hx331_3,hl331_3,hi331_3⟩:=cv HR1_1.out (U) p331 q331;obtain rfl:ad328=ad331:=(by injection e331);replace hx331_0:=mvO z hx331_0;replace hx331_1:=mvO z hx331_1;replace hx331_2:=mvO z hx331_2;replace hx331_3:=mvO z hx331_3;clear hi331_3 hl331_3;replace p331:=rF p331;replace q331:=rF q331)|((with_reducible refine aM (N:=7) rfl ?_);(try(refine bD rfl ?_;dsimp only));refine aI ?hg (N:=7) ?hd (cs:= #[.int .i64 0, .string (⟨#[]⟩:ByteArray), .bool false, .slice none 0 0]) (t:=52) ?hr ?_;(case hd=>rfl);(case hg=>rfl);(case hr=>(go_simp;done));intro gb332 hg w27 X D;have BK332:=aa.mk X;have GE332:=gwO hg z;replace z:=bsO z D;have NB327_332:=nlO hg G;have NB332_327:=ngO hg G;replace G:=bbO G D;have NB329_332:=nlO hg J;have NB332_329:=ngO hg J;replace J:=bbO J D;clear D X hg;have hnc29:=NB329_332.out;obtain⟨hcz30_0,hcz30_1,hcz30_2,hcz30_3,hfz30_0,hfz30_1,hfz30_2,hfz30_3⟩:=cz4 BK332;obtain⟨hcz31_0,hcz31_1,hcz31_2,hcz31_3,hfz31_0,hfz31_1,hfz31_2,hfz31_3⟩:=cz4 J));go_ret;exact⟨by rfl,by repeat((with_reducible first|exact z.out|refine ao ?_ GE332.out))⟩
             ·rw [rq c21]at H
              have c21b0:decide (((ah q y).f0)<((ah q (U)).f0))=false:=rC c21;clear c21;by_cases c32:((ah q y).f0)=((ah q (U)).f0)
              ·rw [rp c32]at H
               have c32b0:(((ah q y).f0)==((ah q (U)).f0))=true:=rI.mpr c32;clear c32;by_cases c33:((Op.bytesLess (((ah q (U)).f1).toList) (((ah q y).f1).toList))=true)
               ·rw [rp c33]at H
                have c33b0:(Op.bytesLess (((ah q (U)).f1).toList) (((ah q y).f1).toList))=true:=c33;have c33z:(Op.bytesLess (((ah q y).f1).toList) (((ah q (U)).f1).toList)||(((ah q y).f1).toList)==(((ah q (U)).f1).toList))=false:=(by rw [jY,c33b0];rfl);clear c33;have H':=aa.mk H;clear H;have am:0≤(y:Int):=dA;have ap:y<(q.length:Int):=dA;obtain⟨ad328,A328_3,c328_3,e328,a2,a6,be,bi,a1,av⟩:=cv HR1_1.out y am ap;cases e328;replace a2:=mvO z a2;replace a6:=mvO z a6;replace be:=mvO z be;replace bi:=mvO z bi;have HR328_3:=aa.mk av;have HC328_3:=aa.mk a1;clear av a1;replace am:=rF am;replace ap:=rF ap;go_wp2_with (first|((with_reducible refine aM (N:=6) rfl ?_);(try(refine bD rfl ?_;dsimp only));refine aI ?hg (N:=6) ?hd (cs:= #[.int .i64 0, .string (⟨#[]⟩:ByteArray), .bool false, .slice none 0 0]) (t:=52) ?hr ?_;(case hd=>rfl);(case hg=>rfl);(case hr=>(go_simp;done));intro gb329 hg w34 X D;have J:=aa.mk X;have Y:=gwO hg z;replace z:=bsO z D;have Z:=nlO hg G;have NB329_327:=ngO hg G;replace G:=bbO G D;clear D X hg;obtain⟨hcz36_0,hcz36_1,hcz36_2,hcz36_3,hfz36_0,hfz36_1,hfz36_2,hfz36_3⟩:=cz4 J)|(go_at_call 27;(with_reducible refine(bk.calls k2 _ _ l0 ((ah q y).f0) ((ah q y).f1) ((ah q y).f2) _ _ ((ah q y).f3) true _ ?side1 ?side2 ?side3 ?side4 ?side5 A15.out).mono ?_);(case side1=>exact Kd.C_below HR0.out (by repeat((with_reducible first|exact z.out|refine ao ?_ Y.out))));(case side2=>exact HC0.out);(case side3=>exact Kd.C_below HR328_3.out (by repeat((with_reducible first|exact z.out|refine ao ?_ Y.out))));(case side4=>exact HC328_3.out);(case side5=>exact GT.now HGT.out (by repeat((with_reducible first|exact z.out|refine ao ?_ Y.out))));rintro e w37 ⟨rfl,D⟩;replace G:=aa.mk (aQ (g:=gb327) (o:= .cells #[.int .u64 V, .slice (some ad328) q.length c1_1] 26 (0,0)) (by refine az ?_ Z.out _;refine az ?_ Z.out _;refine az ?_ Z.out _;refine az ?_ Z.out _;exact G.out) D);replace J:=aa.mk (aQ (g:=gb329) (o:= .cells #[.int .i64 ((ah q y).f0), .string ((ah q y).f1), .bool ((ah q y).f2), .slice A328_3 ((ah q y).f3).length c328_3] 52 (0,0)) (by refine al (cs:= #[.int .i64 ((ah q y).f0), .string ((ah q y).f1), .bool ((ah q y).f2), .slice none 0 0]) ?_ 3 _ rfl;refine al (cs:= #[.int .i64 ((ah q y).f0), .string ((ah q y).f1), .bool false, .slice none 0 0]) ?_ 2 _ rfl;refine al (cs:= #[.int .i64 ((ah q y).f0), .string (⟨#[]⟩:ByteArray), .bool false, .slice none 0 0]) ?_ 1 _ rfl;refine al (cs:= #[.int .i64 0, .string (⟨#[]⟩:ByteArray), .bool false, .slice none 0 0]) ?_ 0 _ rfl;exact J.out) D);replace z:=aa.mk (bn (by repeat((with_reducible first|exact z.out|refine ao ?_ Y.out))) D);(try clear D);obtain⟨hcz38_0,hcz38_1,hfz38_0,hfz38_1⟩:=cz2 G;have p331:0≤((U):Int):=dA;have q331:(U)<(q.length:Int):=dA;obtain⟨ad331,A331_3,c331_3,e331,hx331_0,hx331_1,hx331_2,hx331_3,hl331_3,hi331_3⟩:=cv HR1_1.out (U) p331 q331;obtain rfl:ad328=ad331:=(by injection e331);replace hx331_0:=mvO z hx331_0;replace hx331_1:=mvO z hx331_1;replace hx331_2:=mvO z hx331_2;replace hx331_3:=mvO z hx331_3;clear hi331_3 hl331_3;replace p331:=rF p331;replace q331:=rF q331)|((with_reducible refine aM (N:=7) rfl ?_);(try(refine bD rfl ?_;dsimp only));refine aI ?hg (N:=7) ?hd (cs:= #[.int .i64 0, .string (⟨#[]⟩:ByteArray), .bool false, .slice none 0 0]) (t:=52) ?hr ?_;(case hd=>rfl);(case hg=>rfl);(case hr=>(go_simp;done));intro gb332 hg w39 X D;have BK332:=aa.mk X;have GE332:=gwO hg z;replace z:=bsO z D;have NB327_332:=nlO hg G;have NB332_327:=ngO hg G;replace G:=bbO G D;have NB329_332:=nlO hg J;have NB332_329:=ngO hg J;replace J:=bbO J D;clear D X hg;have hnc41:=NB329_332.out;obtain⟨hcz42_0,hcz42_1,hcz42_2,hcz42_3,hfz42_0,hfz42_1,hfz42_2,hfz42_3⟩:=cz4 BK332;obtain⟨hcz43_0,hcz43_1,hcz43_2,hcz43_3,hfz43_0,hfz43_1,hfz43_2,hfz43_3⟩:=cz4 J))
                go_roundg k2
                case measure=>have:=HJ2.out;have:=HK2.out;omega
                case rel=>exact⟨(wrap64 (y+1)),rfl,H',⟨by have:=HJ2.out;have:=HK2.out;omega⟩,⟨by refine az ?_ NB327_332.out _;refine az ?_ NB327_332.out _;refine az ?_ NB327_332.out _;refine az ?_ NB327_332.out _;exact G.out⟩,⟨by repeat((with_reducible first|exact z.out|refine ao ?_ GE332.out))⟩⟩
               ·rw [rq c33]at H
                have c33b0:(Op.bytesLess (((ah q (U)).f1).toList) (((ah q y).f1).toList))=false:=(by simpa using c33);have c33z:(Op.bytesLess (((ah q y).f1).toList) (((ah q (U)).f1).toList)||(((ah q y).f1).toList)==(((ah q (U)).f1).toList))=true:=(by rw [jY,c33b0];rfl);clear c33;obtain rfl:=rD H;have am:0≤(y:Int):=dA;have ap:y<(q.length:Int):=dA;obtain⟨ad328,A328_3,c328_3,e328,a2,a6,be,bi,a1,av⟩:=cv HR1_1.out y am ap;cases e328;replace a2:=mvO z a2;replace a6:=mvO z a6;replace be:=mvO z be;replace bi:=mvO z bi;have HR328_3:=aa.mk av;have HC328_3:=aa.mk a1;clear av a1;replace am:=rF am;replace ap:=rF ap;go_wp2_with (first|((with_reducible refine aM (N:=6) rfl ?_);(try(refine bD rfl ?_;dsimp only));refine aI ?hg (N:=6) ?hd (cs:= #[.int .i64 0, .string (⟨#[]⟩:ByteArray), .bool false, .slice none 0 0]) (t:=52) ?hr ?_;(case hd=>rfl);(case hg=>rfl);(case hr=>(go_simp;done));intro gb329 hg w44 X D;have J:=aa.mk X;have Y:=gwO hg z;replace z:=bsO z D;have Z:=nlO hg G;have NB329_327:=ngO hg G;replace G:=bbO G D;clear D X hg;obtain⟨hcz46_0,hcz46_1,hcz46_2,hcz46_3,hfz46_0,hfz46_1,hfz46_2,hfz46_3⟩:=cz4 J)|(go_at_call 27;(with_reducible refine(bk.calls k2 _ _ l0 ((ah q y).f0) ((ah q y).f1) ((ah q y).f2) _ _ ((ah q y).f3) true _ ?side1 ?side2 ?side3 ?side4 ?side5 A15.out).mono ?_);(case side1=>exact Kd.C_below HR0.out (by repeat((with_reducible first|exact z.out|refine ao ?_ Y.out))));(case side2=>exact HC0.out);(case side3=>exact Kd.C_below HR328_3.out (by repeat((with_reducible first|exact z.out|refine ao ?_ Y.out))));(case side4=>exact HC328_3.out);(case side5=>exact GT.now HGT.out (by repeat((with_reducible first|exact z.out|refine ao ?_ Y.out))));rintro e w47 ⟨rfl,D⟩;replace G:=aa.mk (aQ (g:=gb327) (o:= .cells #[.int .u64 V, .slice (some ad328) q.length c1_1] 26 (0,0)) (by refine az ?_ Z.out _;refine az ?_ Z.out _;refine az ?_ Z.out _;refine az ?_ Z.out _;exact G.out) D);replace J:=aa.mk (aQ (g:=gb329) (o:= .cells #[.int .i64 ((ah q y).f0), .string ((ah q y).f1), .bool ((ah q y).f2), .slice A328_3 ((ah q y).f3).length c328_3] 52 (0,0)) (by refine al (cs:= #[.int .i64 ((ah q y).f0), .string ((ah q y).f1), .bool ((ah q y).f2), .slice none 0 0]) ?_ 3 _ rfl;refine al (cs:= #[.int .i64 ((ah q y).f0), .string ((ah q y).f1), .bool false, .slice none 0 0]) ?_ 2 _ rfl;refine al (cs:= #[.int .i64 ((ah q y).f0), .string (⟨#[]⟩:ByteArray), .bool false, .slice none 0 0]) ?_ 1 _ rfl;refine al (cs:= #[.int .i64 0, .string (⟨#[]⟩:ByteArray), .bool false, .slice none 0 0]) ?_ 0 _ rfl;exact J.out) D);replace z:=aa.mk (bn (by repeat((with_reducible first|exact z.out|refine ao ?_ Y.out))) D);(try clear D);obtain⟨hcz48_0,hcz48_1,hfz48_0,hfz48_1⟩:=cz2 G;have p331:0≤((U):Int):=dA;have q331:(U)<(q.length:Int):=dA;obtain⟨ad331,A331_3,c331_3,e331,hx331_0,hx331_1,hx331_2,hx331_3,hl331_3,hi331_3⟩:=cv HR1_1.out (U) p331 q331;obtain rfl:ad328=ad331:=(by injection e331);replace hx331_0:=mvO z hx331_0;replace hx331_1:=mvO z hx331_1;replace hx331_2:=mvO z hx331_2;replace hx331_3:=mvO z hx331_3;clear hi331_3 hl331_3;replace p331:=rF p331;replace q331:=rF q331)|((with_reducible refine aM (N:=7) rfl ?_);(try(refine bD rfl ?_;dsimp only));refine aI ?hg (N:=7) ?hd (cs:= #[.int .i64 0, .string (⟨#[]⟩:ByteArray), .bool false, .slice none 0 0]) (t:=52) ?hr ?_;(case hd=>rfl);(case hg=>rfl);(case hr=>(go_simp;done));intro gb332 hg w49 X D;have BK332:=aa.mk X;have GE332:=gwO hg z;replace z:=bsO z D;have NB327_332:=nlO hg G;have NB332_327:=ngO hg G;replace G:=bbO G D;have NB329_332:=nlO hg J;have NB332_329:=ngO hg J;replace J:=bbO J D;clear D X hg;have hnc51:=NB329_332.out;obtain⟨hcz52_0,hcz52_1,hcz52_2,hcz52_3,hfz52_0,hfz52_1,hfz52_2,hfz52_3⟩:=cz4 BK332;obtain⟨hcz53_0,hcz53_1,hcz53_2,hcz53_3,hfz53_0,hfz53_1,hfz53_2,hfz53_3⟩:=cz4 J));go_ret;exact⟨by rfl,by repeat((with_reducible first|exact z.out|refine ao ?_ GE332.out))⟩
              ·rw [rq c32]at H
               have c32b0:(((ah q y).f0)==((ah q (U)).f0))=false:=ry.mpr c32;have H':=aa.mk H;clear H;have am:0≤(y:Int):=dA;have ap:y<(q.length:Int):=dA;obtain⟨ad328,A328_3,c328_3,e328,a2,a6,be,bi,a1,av⟩:=cv HR1_1.out y am ap;cases e328;replace a2:=mvO z a2;replace a6:=mvO z a6;replace be:=mvO z be;replace bi:=mvO z bi;have HR328_3:=aa.mk av;have HC328_3:=aa.mk a1;clear av a1;replace am:=rF am;replace ap:=rF ap;go_wp2_with (first|((with_reducible refine aM (N:=6) rfl ?_);(try(refine bD rfl ?_;dsimp only));refine aI ?hg (N:=6) ?hd (cs:= #[.int .i64 0, .string (⟨#[]⟩:ByteArray), .bool false, .slice none 0 0]) (t:=52) ?hr ?_;(case hd=>rfl);(case hg=>rfl);(case hr=>(go_simp;done));intro gb329 hg w54 X D;have J:=aa.mk X;have Y:=gwO hg z;replace z:=bsO z D;have Z:=nlO hg G;have NB329_327:=ngO hg G;replace G:=bbO G D;clear D X hg;obtain⟨hcz56_0,hcz56_1,hcz56_2,hcz56_3,hfz56_0,hfz56_1,hfz56_2,hfz56_3⟩:=cz4 J)|(go_at_call 27;(with_reducible refine(bk.calls k2 _ _ l0 ((ah q y).f0) ((ah q y).f1) ((ah q y).f2) _ _ ((ah q y).f3) true _ ?side1 ?side2 ?side3 ?side4 ?side5 A15.out).mono ?_);(case side1=>exact Kd.C_below HR0.out (by repeat((with_reducible first|exact z.out|refine ao ?_ Y.out))));(case side2=>exact HC0.out);(case side3=>exact Kd.C_below HR328_3.out (by repeat((with_reducible first|exact z.out|refine ao ?_ Y.out))));(case side4=>exact HC328_3.out);(case side5=>exact GT.now HGT.out (by repeat((with_reducible first|exact z.out|refine ao ?_ Y.out))));rintro e w57 ⟨rfl,D⟩;replace G:=aa.mk (aQ (g:=gb327) (o:= .cells #[.int .u64 V, .slice (some ad328) q.length c1_1] 26 (0,0)) (by refine az ?_ Z.out _;refine az ?_ Z.out _;refine az ?_ Z.out _;refine az ?_ Z.out _;exact G.out) D);replace J:=aa.mk (aQ (g:=gb329) (o:= .cells #[.int .i64 ((ah q y).f0), .string ((ah q y).f1), .bool ((ah q y).f2), .slice A328_3 ((ah q y).f3).length c328_3] 52 (0,0)) (by refine al (cs:= #[.int .i64 ((ah q y).f0), .string ((ah q y).f1), .bool ((ah q y).f2), .slice none 0 0]) ?_ 3 _ rfl;refine al (cs:= #[.int .i64 ((ah q y).f0), .string ((ah q y).f1), .bool false, .slice none 0 0]) ?_ 2 _ rfl;refine al (cs:= #[.int .i64 ((ah q y).f0), .string (⟨#[]⟩:ByteArray), .bool false, .slice none 0 0]) ?_ 1 _ rfl;refine al (cs:= #[.int .i64 0, .string (⟨#[]⟩:ByteArray), .bool false, .slice none 0 0]) ?_ 0 _ rfl;exact J.out) D);replace z:=aa.mk (bn (by repeat((with_reducible first|exact z.out|refine ao ?_ Y.out))) D);(try clear D);obtain⟨hcz58_0,hcz58_1,hfz58_0,hfz58_1⟩:=cz2 G;have p331:0≤((U):Int):=dA;have q331:(U)<(q.length:Int):=dA;obtain⟨ad331,A331_3,c331_3,e331,hx331_0,hx331_1,hx331_2,hx331_3,hl331_3,hi331_3⟩:=cv HR1_1.out (U) p331 q331;obtain rfl:ad328=ad331:=(by injection e331);replace hx331_0:=mvO z hx331_0;replace hx331_1:=mvO z hx331_1;replace hx331_2:=mvO z hx331_2;replace hx331_3:=mvO z hx331_3;clear hi331_3 hl331_3;replace p331:=rF p331;replace q331:=rF q331)|((with_reducible refine aM (N:=7) rfl ?_);(try(refine bD rfl ?_;dsimp only));refine aI ?hg (N:=7) ?hd (cs:= #[.int .i64 0, .string (⟨#[]⟩:ByteArray), .bool false, .slice none 0 0]) (t:=52) ?hr ?_;(case hd=>rfl);(case hg=>rfl);(case hr=>(go_simp;done));intro gb332 hg w59 X D;have BK332:=aa.mk X;have GE332:=gwO hg z;replace z:=bsO z D;have NB327_332:=nlO hg G;have NB332_327:=ngO hg G;replace G:=bbO G D;have NB329_332:=nlO hg J;have NB332_329:=ngO hg J;replace J:=bbO J D;clear D X hg;have hnc61:=NB329_332.out;obtain⟨hcz62_0,hcz62_1,hcz62_2,hcz62_3,hfz62_0,hfz62_1,hfz62_2,hfz62_3⟩:=cz4 BK332;obtain⟨hcz63_0,hcz63_1,hcz63_2,hcz63_3,hfz63_0,hfz63_1,hfz63_2,hfz63_3⟩:=cz4 J))
               go_roundg k2
               case measure=>have:=HJ2.out;have:=HK2.out;omega
               case rel=>exact⟨(wrap64 (y+1)),rfl,H',⟨by have:=HJ2.out;have:=HK2.out;omega⟩,⟨by refine az ?_ NB327_332.out _;refine az ?_ NB327_332.out _;refine az ?_ NB327_332.out _;refine az ?_ NB327_332.out _;exact G.out⟩,⟨by repeat((with_reducible first|exact z.out|refine ao ?_ GE332.out))⟩⟩
            ·rw [rq c20]at H
             exact absurd H (by simp)
           ·rw [if_neg c19]at H
            exact absurd H (by simp)
          ·rw [if_neg c17]at H
           have c17b0:decide (0<y)=false:=rC c17;clear c17;have H':=aa.mk H;clear H;have am:0≤(y:Int):=dA;have ap:y<(q.length:Int):=dA;obtain⟨ad328,A328_3,c328_3,e328,a2,a6,be,bi,a1,av⟩:=cv HR1_1.out y am ap;cases e328;replace a2:=mvO z a2;replace a6:=mvO z a6;replace be:=mvO z be;replace bi:=mvO z bi;have HR328_3:=aa.mk av;have HC328_3:=aa.mk a1;clear av a1;replace am:=rF am;replace ap:=rF ap;go_wp2_with (first|((with_reducible refine aM (N:=6) rfl ?_);(try(refine bD rfl ?_;dsimp only));refine aI ?hg (N:=6) ?hd (cs:= #[.int .i64 0, .string (⟨#[]⟩:ByteArray), .bool false, .slice none 0 0]) (t:=52) ?hr ?_;(case hd=>rfl);(case hg=>rfl);(case hr=>(go_simp;done));intro gb329 hg w64 X D;have J:=aa.mk X;have Y:=gwO hg z;replace z:=bsO z D;have Z:=nlO hg G;have NB329_327:=ngO hg G;replace G:=bbO G D;clear D X hg;obtain⟨hcz66_0,hcz66_1,hcz66_2,hcz66_3,hfz66_0,hfz66_1,hfz66_2,hfz66_3⟩:=cz4 J)|(go_at_call 27;(with_reducible refine(bk.calls k2 _ _ l0 ((ah q y).f0) ((ah q y).f1) ((ah q y).f2) _ _ ((ah q y).f3) true _ ?side1 ?side2 ?side3 ?side4 ?side5 A15.out).mono ?_);(case side1=>exact Kd.C_below HR0.out (by repeat((with_reducible first|exact z.out|refine ao ?_ Y.out))));(case side2=>exact HC0.out);(case side3=>exact Kd.C_below HR328_3.out (by repeat((with_reducible first|exact z.out|refine ao ?_ Y.out))));(case side4=>exact HC328_3.out);(case side5=>exact GT.now HGT.out (by repeat((with_reducible first|exact z.out|refine ao ?_ Y.out))));rintro e w67 ⟨rfl,D⟩;replace G:=aa.mk (aQ (g:=gb327) (o:= .cells #[.int .u64 V, .slice (some ad328) q.length c1_1] 26 (0,0)) (by refine az ?_ Z.out _;refine az ?_ Z.out _;refine az ?_ Z.out _;refine az ?_ Z.out _;exact G.out) D);replace J:=aa.mk (aQ (g:=gb329) (o:= .cells #[.int .i64 ((ah q y).f0), .string ((ah q y).f1), .bool ((ah q y).f2), .slice A328_3 ((ah q y).f3).length c328_3] 52 (0,0)) (by refine al (cs:= #[.int .i64 ((ah q y).f0), .string ((ah q y).f1), .bool ((ah q y).f2), .slice none 0 0]) ?_ 3 _ rfl;refine al (cs:= #[.int .i64 ((ah q y).f0), .string ((ah q y).f1), .bool false, .slice none 0 0]) ?_ 2 _ rfl;refine al (cs:= #[.int .i64 ((ah q y).f0), .string (⟨#[]⟩:ByteArray), .bool false, .slice none 0 0]) ?_ 1 _ rfl;refine al (cs:= #[.int .i64 0, .string (⟨#[]⟩:ByteArray), .bool false, .slice none 0 0]) ?_ 0 _ rfl;exact J.out) D);replace z:=aa.mk (bn (by repeat((with_reducible first|exact z.out|refine ao ?_ Y.out))) D);(try clear D)))
           go_roundg k2
           case measure=>have:=HJ2.out;have:=HK2.out;omega
           case rel=>exact⟨(wrap64 (y+1)),rfl,H',⟨by have:=HJ2.out;have:=HK2.out;omega⟩,⟨G.out⟩,⟨z.out⟩⟩
         ·replace c16:=rT.mpr c16
          subst c16;have H1:(some false)=some r:=(by rw [rq (show¬(false=true)by decide)]at H;exact H);clear H;have H:=H1;clear H1;obtain rfl:=rD H;have am:0≤(y:Int):=dA;have ap:y<(q.length:Int):=dA;obtain⟨ad328,A328_3,c328_3,e328,a2,a6,be,bi,a1,av⟩:=cv HR1_1.out y am ap;cases e328;replace a2:=mvO z a2;replace a6:=mvO z a6;replace be:=mvO z be;replace bi:=mvO z bi;have HR328_3:=aa.mk av;have HC328_3:=aa.mk a1;clear av a1;replace am:=rF am;replace ap:=rF ap;go_wp2_with (first|((with_reducible refine aM (N:=6) rfl ?_);(try(refine bD rfl ?_;dsimp only));refine aI ?hg (N:=6) ?hd (cs:= #[.int .i64 0, .string (⟨#[]⟩:ByteArray), .bool false, .slice none 0 0]) (t:=52) ?hr ?_;(case hd=>rfl);(case hg=>rfl);(case hr=>(go_simp;done));intro gb329 hg w68 X D;have J:=aa.mk X;have Y:=gwO hg z;replace z:=bsO z D;have Z:=nlO hg G;have NB329_327:=ngO hg G;replace G:=bbO G D;clear D X hg;obtain⟨hcz70_0,hcz70_1,hcz70_2,hcz70_3,hfz70_0,hfz70_1,hfz70_2,hfz70_3⟩:=cz4 J)|(go_at_call 27;(with_reducible refine(bk.calls k2 _ _ l0 ((ah q y).f0) ((ah q y).f1) ((ah q y).f2) _ _ ((ah q y).f3) false _ ?side1 ?side2 ?side3 ?side4 ?side5 A15.out).mono ?_);(case side1=>exact Kd.C_below HR0.out (by repeat((with_reducible first|exact z.out|refine ao ?_ Y.out))));(case side2=>exact HC0.out);(case side3=>exact Kd.C_below HR328_3.out (by repeat((with_reducible first|exact z.out|refine ao ?_ Y.out))));(case side4=>exact HC328_3.out);(case side5=>exact GT.now HGT.out (by repeat((with_reducible first|exact z.out|refine ao ?_ Y.out))));rintro e w71 ⟨rfl,D⟩;replace G:=aa.mk (aQ (g:=gb327) (o:= .cells #[.int .u64 V, .slice (some ad328) q.length c1_1] 26 (0,0)) (by refine az ?_ Z.out _;refine az ?_ Z.out _;refine az ?_ Z.out _;refine az ?_ Z.out _;exact G.out) D);replace J:=aa.mk (aQ (g:=gb329) (o:= .cells #[.int .i64 ((ah q y).f0), .string ((ah q y).f1), .bool ((ah q y).f2), .slice A328_3 ((ah q y).f3).length c328_3] 52 (0,0)) (by refine al (cs:= #[.int .i64 ((ah q y).f0), .string ((ah q y).f1), .bool ((ah q y).f2), .slice none 0 0]) ?_ 3 _ rfl;refine al (cs:= #[.int .i64 ((ah q y).f0), .string ((ah q y).f1), .bool false, .slice none 0 0]) ?_ 2 _ rfl;refine al (cs:= #[.int .i64 ((ah q y).f0), .string (⟨#[]⟩:ByteArray), .bool false, .slice none 0 0]) ?_ 1 _ rfl;refine al (cs:= #[.int .i64 0, .string (⟨#[]⟩:ByteArray), .bool false, .slice none 0 0]) ?_ 0 _ rfl;exact J.out) D);replace z:=aa.mk (bn (by repeat((with_reducible first|exact z.out|refine ao ?_ Y.out))) D);(try clear D)));go_ret;exact⟨by rfl,by exact z.out⟩
        ·rw [rq c14]at H
         exact absurd H (by simp)
       ·rw [if_neg c13]at H
        exact absurd H (by simp)
      ·rw [if_neg c12]at H
       have c12b0:decide (y<(q.length:Int))=false:=rC c12;clear c12;obtain rfl:=rD H;go_wp2;go_ret;exact⟨by rfl,by exact z.out⟩
end
end Go.Proofs.YtiphlfpainoeiaaGreatDoor.L
namespace Go.Proofs.YtiphlfpainoeiaaGreatDoor
open Go.RowKit Go.Proofs.YtiphlfpainoeiaaGreatDoorW.PrintWords L
def Bt(l:List Int):Prop:=∀x∈l,0≤x∧x<256
theorem Bt.of(s:ByteArray):Bt (br s):=by
 intro x h;obtain⟨c,_,rfl⟩:=List.mem_map.1 h;have:=c.toNat_lt;omega
theorem Bt.drop{l:List Int}(h:Bt l)(i:Nat):Bt (l.drop i):=fun x q=>h x (List.mem_of_mem_drop q)
theorem Bt.take{l:List Int}(h:Bt l)(i:Nat):Bt (l.take i):=fun x q=>h x (List.mem_of_mem_take q)
theorem dv{l:List Int}(h:Bt l):br (strOfNums l)=l:=by
 unfold br;rw [strOfNums_data,List.map_map];conv=>rhs;rw [←List.map_id l]
 apply List.map_congr_left;intro x q;have:=h x q;simp only [Function.comp,UInt8.toNat_ofNat',id];omega
theorem eh(s:ByteArray):strOfNums (br s)=s:=by
 apply sG;apply Array.toList_inj.1;rw [strOfNums_data,br,List.map_map];conv=>rhs;rw [←List.map_id s.data.toList]
 apply List.map_congr_left;intro x _;simp
theorem fu(a:ByteArray)(i j:Nat):br (a.extract i j)=((br a).take j).drop i:=by
 unfold br;rw [←List.map_take,←List.map_drop];congr 1;simp [ByteArray.data_extract,List.drop_take]
theorem ff(a:ByteArray)(i:Nat):a.extract i a.size=strOfNums ((br a).drop i):=by
 rw [←eh (a.extract i a.size),fu,rY (by rw [bS];exact rA _)]
theorem nK(a:ByteArray)(i:Nat):a.extract 0 i=strOfNums ((br a).take i):=by
 rw [←eh (a.extract 0 i),fu,sH]
theorem cy(l:List Int):(strOfNums l).size=l.length:=strOfNums_size l
theorem gq{l:List Int}(h:Bt l)(i:Nat):bt (strOfNums l) i=l.getD i 0:=by
 rw [←hZ,dv h];rfl
def num:Nat→List Int→Nat
 |x,[]=>x
 |x,b::l=>num (x*256+b.toNat) l
theorem iY:∀(l:List Int) (x:Nat),num x l=x*256^l.length+num 0 l:=by
 intro l
 induction l with
 |nil=>intro x;simp [num]
 |cons b l h=>
  intro x;rw [num,num,h (x*256+b.toNat),h (0*256+b.toNat),List.length_cons,r_,Nat.add_mul,Nat.zero_mul,Nat.zero_add,Nat.mul_assoc,sA 256,Nat.add_assoc]
theorem eW{l:List Int}(h:Bt l):num 0 l<256^l.length:=by
 induction l with
 |nil=>simp [num]
 |cons b l y=>
  have D:=h b (rW ..);have:=y (fun x r=>h x (rX _ r));rw [num,iY,List.length_cons,r_,Nat.zero_mul,Nat.zero_add];have q:b.toNat≤255:=by omega
  have z:=sc (256^l.length) q;omega
theorem kL{l:List Int}(h:Bt l):∀m,hB l.length (m*256^l.length+num 0 l)=l:=by
 induction l with
 |nil=>intro m;rfl
 |cons b l y=>
  intro m;have z:=h b (rW ..);have q:Bt l:=fun x r=>h x (rX _ r)
  have hn:=eW q;have hp:0<256^l.length:=Nat.pow_pos (by decide);have e:m*256^(l.length+1)+num 0 (b::l)=(m*256+b.toNat)*256^l.length+num 0 l:=by
   rw [num,iY,Nat.zero_mul,Nat.zero_add,r_,Nat.add_mul,Nat.mul_assoc,sA 256,Nat.add_assoc]
  rw [List.length_cons,hB,e,y q];congr 1;have:((m*256+b.toNat)*256^l.length+num 0 l)/256^l.length=m*256+b.toNat:=by
   rw [sA,Nat.mul_add_div hp,Nat.div_eq_of_lt hn,Nat.add_zero]
  rw [this];omega
theorem kC:∀(k n:Nat),num 0 (hB k n)=n%256^k:=by
 intro k
 induction k with
 |zero=>intro n;simp [hB,num,Nat.mod_one]
 |succ k h=>
  intro n;rw [hB,num,iY,h,ez,Nat.zero_mul,Nat.zero_add,r_,Nat.mod_mul];have:((n/256^k%256:Nat):Int).toNat=n/256^k%256:=by omega
  first|rw [this,sA,Nat.add_comm]|(rw [show(((n:Int)/256^k%256).toNat)=n/256^k%256 from by omega,sA,Nat.add_comm])
theorem nH:∀(k n:Nat),Bt (hB k n):=by
 intro k
 induction k with
 |zero=>intro n x h;simp [hB]at h
 |succ k q=>
  intro n x h;rw [hB]at h;rcases List.mem_cons.1 h with rfl|h;·omega
  ·exact q n x h
theorem ll(x b:Nat)(r:x<72057594037927936)(q:b<256):Go.bits .or .u64 (IntKind.u64.wrap ((x:Int)*256)) (IntKind.u64.wrap (b:Int))=((x*256+b:Nat):Int):=by
 have h1:IntKind.u64.wrap ((x:Int)*256)=((x*256:Nat):Int):=by rw [bP];omega
 have h:IntKind.u64.wrap ((b:Nat):Int)=(b:Int):=by rw [bP];omega
 rw [h1,h,u64_or _ _ (by omega) (by omega)];congr 1;have:=Nat.two_pow_add_eq_or_of_lt (i:=8) (b:=b) (by omega) x;rw [sA x 256];exact this.symm
theorem dY(a:ByteArray)(i:Nat)(h:i<a.size):(br a).drop i=bt a i::(br a).drop (i+1):=by
 rw [sn (by rw [bS];exact h),←hZ];unfold rd;simp [List.getD_eq_getElem?_getD,bS,h]
theorem l7(a:ByteArray)(G:a.size≤8):∀(d i k x:Nat),i+d=a.size→d<k→x<256^i→a_.l0 k a x a.size i=some ((num x ((br a).drop i):Nat):Int):=by
 intro d
 induction d with
 |zero=>
  intro i k x hi r y;obtain⟨k,rfl⟩:∃m,k=m+1:=⟨k-1,by omega⟩;unfold a_.l0;rw [rq (by omega),rS (by rw [bS];omega),num]
 |succ d D=>
  intro i k x hi r y;obtain⟨k,rfl⟩:∃m,k=m+1:=⟨k-1,by omega⟩;have hp:256^i≤256^7:=sB (by decide) (by omega);obtain⟨b,h,q⟩:∃b:Nat,bt a i=(b:Int)∧b<256:=⟨(bt a i).toNat,by have:=fh a i;omega,by have:=fh a i;omega⟩;have z:x*256+b<256^(i+1):=by rw [r_];omega
  unfold a_.l0;rw [rp (by omega),rp (by omega),rp (by omega),h,ll x b (by omega) q,w1 i (by omega),D (i+1) k _ (by omega) (by omega) z,dY a i (by omega),num,h];rfl
theorem iL(k:Nat)(l:List Int)(q:l.length≤8)(h:Bt l)(r:8<k):a_.f k (strOfNums l)=some ((num 0 l:Nat):Int):=by
 have:=l7 (strOfNums l) (by rw [cy];exact q) l.length 0 k 0 (by rw [cy];omega) (by omega) (by simp);rw [dv h,List.drop_zero]at this;exact this
theorem iD(a:ByteArray)(G:a.size≤8):∀(d i k x:Nat),i+d=a.size→d<k→x<256^i→aE.l0 k a x i=some ((num x ((br a).drop i):Nat):Int):=by
 intro d
 induction d with
 |zero=>
  intro i k x hi r y;obtain⟨k,rfl⟩:∃m,k=m+1:=⟨k-1,by omega⟩;unfold aE.l0;rw [rq (by omega),rS (by rw [bS];omega),num]
 |succ d D=>
  intro i k x hi r y;obtain⟨k,rfl⟩:∃m,k=m+1:=⟨k-1,by omega⟩;have hp:256^i≤256^7:=sB (by decide) (by omega);obtain⟨b,h,q⟩:∃b:Nat,bt a i=(b:Int)∧b<256:=⟨(bt a i).toNat,by have:=fh a i;omega,by have:=fh a i;omega⟩;have z:x*256+b<256^(i+1):=by rw [r_];omega
  unfold aE.l0;rw [rp (by omega),rp (by omega),h,ll x b (by omega) q,w1 i (by omega),D (i+1) k _ (by omega) (by omega) z,dY a i (by omega),num,h];rfl
theorem fB(k:Nat)(l:List Int)(q:l.length≤8)(h:Bt l)(r:8<k):aE.f k (strOfNums l)=some ((num 0 l:Nat):Int):=by
 have:=iD (strOfNums l) (by rw [cy];exact q) l.length 0 k 0 (by rw [cy];omega) (by omega) (by simp);rw [dv h,List.drop_zero]at this;exact this
theorem gP(l:List Int)(y:Bt l)(n:Nat):b6.f (strOfNums l) n=some (if l.length<n then(⟨#[]⟩,⟨#[]⟩,false)else(strOfNums (l.take n),strOfNums (l.drop n),true)):=by
 unfold b6.f;rw [cy];by_cases h:l.length<n;·rw [rp (by omega),rp h]
 ·rw [rq (by omega),rq h,rp (by omega),rp (by omega)]
  have r:=nK (strOfNums l) n;have q:=ff (strOfNums l) n;rw [dv y]at r q;rw [cy]at q;rw [show((n:Int).toNat)=n from by omega,r,q]
theorem mE(m y:Nat)(h:y<2^m):y^^^(2^m-1)=2^m-1-y:=by
 apply Nat.eq_of_testBit_eq;intro i;rw [Nat.testBit_xor,Nat.testBit_two_pow_sub_one];have q:=Nat.testBit_two_pow_sub_succ (x:=y) (n:=m) h i;rw [show 2^m-1-y=2^m-(y+1)from by omega,q];by_cases hi:i<m;·simp [hi]
 ·have:y.testBit i=false:=Nat.testBit_lt_two_pow (rv h (sB (n:=2) (by decide) (by omega:m≤i)))
  simp [hi,this]
theorem na:∀n,n≤8→18446744073709551615/256^(8-n)=256^n-1:=by decide
theorem mX(n:Nat):256^n=2^(8*n):=(qg n).symm
theorem gR(n:Nat)(h:n≤8):256^n≤18446744073709551616:=sB (n:=256) (by decide) h
def xN(neg:Bool)(n:Nat)(l:List Int):Nat:=if neg=true then 256^n-1-num 0 l else num 0 l
theorem kk(n y:Nat)(hn:n≤8)(z:y<256^n):Go.bits .xor .u64 (y:Int) (shr .u64 18446744073709551615 (wrap64 (64-(wrap64 (8*(n:Int))))))=((256^n-1-y:Nat):Int):=by
 have r:wrap64 (64-(wrap64 (8*(n:Int))))=((8*(8-n):Nat):Int):=by rw [w8 n hn];unfold wrap64;omega
 have hp:=gR n hn;have h:=lT 18446744073709551615 (8-n) (by omega);rw [na n hn]at h;rw [r];have q:shr .u64 18446744073709551615 ((8*(8-n):Nat):Int)=((256^n-1:Nat):Int):=h;rw [q,u64_xor _ _ (by omega) (by omega),mX,mE _ _ (by rw [←mX];exact z)]
theorem oM(n y:Nat)(hn:n≤8)(G:y<256^n):Go.bits .and .u64 (Go.bits .xor .u64 18446744073709551615 (y:Int)) (IntKind.u64.wrap ((shl .u64 1 (IntKind.u64.wrap (wrap64 (8*(n:Int)))))-1))=((256^n-1-y:Nat):Int):=by
 have hp:=gR n hn;have h1:IntKind.u64.wrap (wrap64 (8*(n:Int)))=((8*n:Nat):Int):=by rw [w8 n hn,bP];omega
 have h:IntKind.u64.wrap ((shl .u64 1 ((8*n:Nat):Int))-1)=((256^n-1:Nat):Int):=by
  unfold shl;rw [show min ((8*n:Nat):Int).toNat IntKind.u64.bits=8*n from by rw [sm];exact Nat.min_eq_left (by show 8*n≤64;omega)];have e:(1:Int)*2^(8*n)=((256^n:Nat):Int):=by rw [mX,Int.one_mul];push_cast;rfl
  rw [e,bP,bP];have D:0<256^n:=Nat.pow_pos (by decide);omega
 rw [h1,h,fZ y (by omega),u64_and _ _ (by omega) (by omega)];congr 1;rw [mX,Nat.and_two_pow_sub_one_eq_mod,←mX];have r:18446744073709551616=256^n*256^(8-n):=by rw [←Nat.pow_add,show n+(8-n)=8 from by omega]
 obtain⟨q,z⟩:∃q,256^(8-n)=q+1:=⟨256^(8-n)-1,by have:0<256^(8-n):=Nat.pow_pos (by decide);omega⟩;rw [z,Nat.mul_add,Nat.mul_one]at r;rw [show 18446744073709551615-y=(256^n-1-y)+256^n*q from by omega,Nat.add_mul_mod_self_left,sv (by omega)]
def gN(neg:Bool)(n:Nat)(l:List Int):Option (Int×List Int):=
 if 8<n then none else if l.length<n then none else
 if(szN (xN neg n (l.take n))=n∨(neg=true∧xN neg n (l.take n)=0∧n=1))∧xN neg n (l.take n)≤9223372036854775807 then some ((if neg=true then-(xN neg n (l.take n):Int)-1 else(xN neg n (l.take n):Int)),l.drop n)else none
def gI:Option (Int×List Int)→Int×Int×Nat×ByteArray×ByteArray×Bool
 |none=>(0,0,0,⟨#[]⟩,⟨#[]⟩,false)
 |some (v,r)=>(2,v,0,⟨#[]⟩,strOfNums r,true)
def gn:List Int→Option (Int×List Int)
 |[]=>none
 |b::l=>gN (decide (b<128)) (b-128).natAbs l
theorem p9(neg:Bool)(n:Nat)(l:List Int)(h:Bt l)(q:l.length=n):xN neg n l<256^n:=by
 have:=eW h;rw [q]at this;unfold xN;split<;>omega
theorem qq(k:Nat)(r:List Int)(neg:Bool)(x:Nat)(h:x≤9223372036854775807):aD.j3 (k+1) (strOfNums r) neg x false=some (gI (some ((if neg=true then-(x:Int)-1 else(x:Int)),r))):=by
 rw [aD.j3,rq (by decide)];cases neg with
 |true=>rw [rp rfl,rp rfl];rw [show wrap64 ((wrap64 (-(wrap64 ((x:Int)))))-1)= -(x:Int)-1 from by unfold wrap64;omega];rfl
 |false=>rw [rq (by decide),rq (by decide),show wrap64 ((x:Int))=x from by unfold wrap64;omega];rfl
theorem pa(k:Nat)(r:List Int)(n:Nat)(neg:Bool)(x:Nat)(G:x<18446744073709551616):aD.j1 (k+3) (strOfNums r) n neg x=some (gI (if(szN x=n∨(neg=true∧x=0∧n=1))∧x≤9223372036854775807 then some ((if neg=true then-(x:Int)-1 else(x:Int)),r)else none)):=by
 have z:aD.j3 (k+1) (strOfNums r) neg x true=some (gI none):=by rw [aD.j3,rp rfl];rfl
 have D:aD.j2 (k+2) (strOfNums r) neg x true=some (gI (if x≤9223372036854775807 then some ((if neg=true then-(x:Int)-1 else(x:Int)),r)else none)):=by
  rw [aD.j2,rp rfl];by_cases q:x≤9223372036854775807;·rw [show decide ((x:Int)>9223372036854775807)=false from rC (by omega),qq k r neg x q,rp q]
  ·rw [show decide ((x:Int)>9223372036854775807)=true from ru (by omega),z,rq q]
 have hF:aD.j2 (k+2) (strOfNums r) neg x false=some (gI none):=by rw [aD.j2,rq (by decide),z]
 rw [aD.j1,iR x G,rG];by_cases h:szN x=n
 ·rw [rp (by omega),D]
  simp [h]
 ·rw [rq (by omega)]
  cases neg with
  |false=>
   rw [rq (by decide),hF];simp [h]
  |true=>
   rw [rp rfl];by_cases y:x=0
   ·rw [rp (by omega)]
    by_cases h1:n=1
    ·rw [show((n:Int)==1)=true from by rw [h1];rfl,D]
     simp [y,h1]
    ·rw [show((n:Int)==1)=false from by rw [ry];omega,hF]
     simp [h,h1]
   ·rw [rq (by omega),hF]
    simp [h,y]
theorem pc(k:Nat)(J:20≤k)(l:List Int)(y:Bt l)(n:Nat)(neg:Bool):aD.j0 k (strOfNums l) n neg=some (gI (gN neg n l)):=by
 obtain⟨k,rfl⟩:∃m,k=m+4:=⟨k-4,by omega⟩;rw [aD.j0];unfold gN;by_cases r:8<n;·rw [rp (by omega),rp r];rfl
 rw [rq (by omega),rq r,gP l y n,rG];by_cases h:l.length<n;·rw [rp h,rp h,rq (by decide)];rfl
 rw [rq h,rq h,rp rfl];have q:=y.take n;have D:(l.take n).length=n:=by rw [r8];omega
 have z:=eW q;rw [D]at z;have U:=p9 neg n _ q D;have hp:=gR n (by omega);rw [iL (k+3) _ (by omega) q (by omega),rG];cases neg with
 |true=>
  rw [rp rfl,rp (by rw [w8 n (by omega)];unfold wrap64;omega),kk n _ (by omega) z];have G:xN true n (l.take n)=256^n-1-num 0 (l.take n):=rfl;rw [←G];exact pa k _ n true _ (by omega)
 |false=>
  rw [rq (by decide)];exact pa k _ n false _ (by have G:xN false n (l.take n)=num 0 (l.take n):=rfl;omega)
theorem mg(k:Nat)(z:20≤k)(l:List Int)(h:Bt l):aD.f k (strOfNums l)=some (gI (gn l)):=by
 unfold aD.f;have q:=gP l h 1;cases l with
 |nil=>rw [rp (by decide)]at q;rw [show(1:Int)=((1:Nat):Int)from rfl,q,rG,rq (by decide)];rfl
 |cons b l=>
  have U:=h b (rW ..);have y:Bt l:=fun x r=>h x (rX _ r)
  have D:Bt [b]:=fun x r=>h x (by simp at r;simp [r])
  have V:(strOfNums [b]).size=1:=cy _;have G:bt (strOfNums [b]) 0=b:=gq D 0;have J:wrap64 ((wrap64 b)-128)=b-128:=by unfold wrap64;omega
  rw [rq (by simp)]at q;rw [show(1:Int)=((1:Nat):Int)from rfl,q,rG,rp rfl];show(if 0<((strOfNums [b]).size:Int)then _ else none)=_;rw [rp (by omega)];show(if(wrap64 ((wrap64 (bt (strOfNums [b]) 0))-128))<0 then aD.j0 k (strOfNums l) (wrap64 (-(wrap64 ((wrap64 (bt (strOfNums [b]) 0))-128)))) (decide ((wrap64 ((wrap64 (bt (strOfNums [b]) 0))-128))<0))else aD.j0 k (strOfNums l) (wrap64 ((wrap64 (bt (strOfNums [b]) 0))-128)) (decide ((wrap64 ((wrap64 (bt (strOfNums [b]) 0))-128))<0)))=_;rw [G,J];rw [gn];by_cases hn:b<128
  ·rw [rp (by omega),show wrap64 (-(b-128))=(((b-128).natAbs:Nat):Int)from by unfold wrap64;omega,show decide (b-128<0)=true from ru (by omega),ru hn]
   exact pc k z l y _ true
  ·rw [rq (by omega),show b-128=(((b-128).natAbs:Nat):Int)from by omega,show decide ((((b-128).natAbs:Nat):Int)<0)=false from rC (by omega),rC hn]
   exact pc k z l y _ false
theorem qj(l:List UInt8):Bt (nB l):=by
 intro x h;obtain⟨c,_,rfl⟩:=List.mem_map.1 h;have:=c.toNat_lt;omega
theorem Bt.tail{b:Int}{l:List Int}(h:Bt (b::l)):Bt l:=fun x q=>h x (rX _ q)
theorem Bt.head{b:Int}{l:List Int}(h:Bt (b::l)):0≤b∧b<256:=h b (rW ..)
def fU(y:Nat):Nat:=if y<9223372036854775808 then 18446744073709551615-y else y-9223372036854775808
def i_(l:List Int):Option (Nat×List Int):=if l.length<8 then none else if fC (fU (num 0 (l.take 8)))=fU (num 0 (l.take 8))then some (fU (num 0 (l.take 8)),l.drop 8)else none
def unE(h:List UInt8):List Int→Option (List UInt8×List Int)
 |[]=>none
 |[b]=>if b=0 then some (h,[])else none
 |b::c::l=>if b=0 then(if c=255 then unE (h++ [0]) l else some (h,c::l))else unE (h++ [UInt8.ofNat b.toNat]) (c::l)
def fe:List Int→Option (S84×List Int)
 |[]=>none
 |b::l=>
  if b=1 then some (⟨0,0,0,⟨#[]⟩⟩,l)
  else if b=2 then(if l.getD 0 2>1 then none else some (⟨1,l.getD 0 2,0,⟨#[]⟩⟩,l.drop 1))
  else if b=3 then(gn l).map fun x=>(⟨2,x.1,0,⟨#[]⟩⟩,x.2)
  else if b=4 then(i_ l).map fun x=>(⟨3,0,x.1,⟨#[]⟩⟩,x.2)
  else if b=5∨b=6 then(unE [] l).bind fun x=>if aX ⟨b-1,0,0,⟨x.1.toArray⟩⟩=0 then some (⟨b-1,0,0,⟨x.1.toArray⟩⟩,x.2)else none
  else none
def GS(o:Option (S84×List Int))(r:Int×Int×Nat×ByteArray×ByteArray×Bool):Prop:=
 match o with
 |none=>r.2.2.2.2.2=false
 |some (v,rest)=>r=(v.f0,v.f1,v.f2,v.f3,strOfNums rest,true)
theorem jQ(k:Nat)(hk:20≤k)(l:List Int)(D:Bt l):∃r,bq.f k (strOfNums l)=some r∧GS ((i_ l).map fun x=>(⟨3,0,x.1,⟨#[]⟩⟩,x.2)) r:=by
 unfold bq.f i_;rw [show(8:Int)=((8:Nat):Int)from rfl,gP l D 8,rG];by_cases h:l.length<8
 ·rw [rp h,rp h,rq (by decide)]
  exact⟨_,rfl,rfl⟩
 rw [rq h,rq h,rp rfl];have G:=D.take 8;have am:(l.take 8).length=8:=by rw [r8];omega
 have J:=eW G;rw [am]at J;rw [iL k _ (by omega) G (by omega),rG];obtain⟨y,hy⟩:∃y,num 0 (l.take 8)=y:=⟨_,rfl⟩;rw [hy]at J⊢;have Z:∀b:Nat,bQ.f 3 0 b ⟨#[]⟩=some (3,0,fC b,⟨#[]⟩):=fun b=>rfl
 have key:∀(x:Int),x=(fU y:Nat)→∃r,((bQ.f 3 0 x.toNat (⟨#[]⟩:ByteArray)).bind fun U=>some ((3:Int),(0:Int),x.toNat,(⟨#[]⟩:ByteArray),strOfNums (l.drop 8),((U.2.2.1:Int)==x)))=some r∧GS ((if fC (fU y)=fU y then some (fU y,l.drop 8)else none).map fun x=>(⟨3,0,x.1,⟨#[]⟩⟩,x.2)) r:=by
  intro x hx;subst hx;rw [sm,Z,rG];refine⟨_,rfl,?_⟩;by_cases q:fC (fU y)=fU y
  ·rw [rp q]
   show _=_;have:((fC (fU y):Int)==(fU y:Int))=true:=(by rw [q];exact beq_self_eq_true _);rw [show((fC (fU y):Int)==(fU y:Int))=true from this]
  ·rw [rq q]
   show((fC (fU y):Int)==(fU y:Int))=false;rw [ry];omega
 by_cases Y:y<9223372036854775808
 ·rw [rq (by omega)]
  exact key _ (by rw [fZ y (by omega)];unfold fU;rw [rp Y])
 ·rw [rp (by omega)]
  refine key _ ?_;have e:=mH (y-9223372036854775808) (by omega);obtain⟨z,hz⟩:∃z,y=z+9223372036854775808:=⟨y-9223372036854775808,by omega⟩;subst hz;rw [Nat.add_sub_cancel]at e;have V:Go.bits .xor .u64 ((z+9223372036854775808:Nat):Int) 9223372036854775808=(z:Int):=by
   rw [show(9223372036854775808:Int)=((9223372036854775808:Nat):Int)from rfl,u64_xor _ _ (by omega) (by decide)];rw [show(9223372036854775808:Int)=((9223372036854775808:Nat):Int)from rfl,u64_xor z _ (by omega) (by decide)]at e;have X:z^^^9223372036854775808=z+9223372036854775808:=(by omega);rw [←X,Nat.xor_assoc,Nat.xor_self,Nat.xor_zero]
  rw [V];unfold fU;rw [rq (by omega),Nat.add_sub_cancel]
def SR:Option (List UInt8×List Int)→ByteArray×ByteArray×Bool
 |none=>(⟨#[]⟩,⟨#[]⟩,false)
 |some (t,r)=>(⟨t.toArray⟩,strOfNums r,true)
theorem lE(a:ByteArray)(i:Nat)(h:i<a.size):bt a i=((a[i]).toNat:Int):=kS a i h
theorem qp(s:ByteArray):∀(n:Nat) (b:List UInt8) (i:Nat),s.size<n+i→gsL n s b i=SR (unE b ((br s).drop i)):=by
 intro n
 induction n with
 |zero=>
  intro b i hi;rw [rS (by rw [bS];omega)];rfl
 |succ n J=>
  intro b i hi;rw [gsL];by_cases h:i<s.size
  ·rw [dif_pos h]
   have hd:=dY s i h;rw [lE s i h]at hd;by_cases z:i+1<s.size
   ·have r:=dY s (i+1) z
    rw [lE s (i+1) z]at r;rw [hd,r,unE];by_cases q:s[i]=0
    ·have G:((s[i]).toNat:Int)=0:=by rw [q];rfl
     rw [rp q,dif_pos z,rp G];by_cases D:s[i+1]=255
     ·have U:((s[i+1]).toNat:Int)=255:=by rw [D];rfl
      rw [rp D,rp U,J _ (i+2) (by omega)]
     ·have y:¬(((s[i+1]).toNat:Int)=255):=fun e=>D (sx.1 (show(s[i+1]).toNat=255 from by omega))
      rw [rq D,rq y,SR,ff,r]
    ·have y:¬(((s[i]).toNat:Int)=0):=fun e=>q (sx.1 (show(s[i]).toNat=0 from by omega))
     rw [rq q,rq y,J _ (i+1) (by omega),r];congr 3;simp
   ·have r:(br s).drop (i+1)= []:=rS (by rw [bS];omega)
    rw [hd,r,unE];by_cases q:s[i]=0
    ·have G:((s[i]).toNat:Int)=0:=by rw [q];rfl
     rw [rp q,dif_neg z,rp G,SR,ff,r]
    ·have y:¬(((s[i]).toNat:Int)=0):=fun e=>q (sx.1 (show(s[i]).toNat=0 from by omega))
     rw [rq q,rq y,J _ (i+1) (by omega),r];rfl
  ·rw [dif_neg h,rS (by rw [bS];omega)]
   rfl
theorem iZ(l:List Int)(h:Bt l)(q:l.length<140737488355328):ck.f (strOfNums l)=some (SR (unE [] l)):=by
 unfold ck.f;rw [rp (by rw [cy];exact q),qp _ _ _ _ (by omega),dv h,sH]
theorem qx(b:Int)(t:List UInt8)(h:t.length≤9223372036854775807):bR.f b 0 0 ⟨t.toArray⟩=some (aX ⟨b,0,0,⟨t.toArray⟩⟩):=by
 unfold bR.f;rw [rp (by show t.toArray.size≤_;simpa using h)]
theorem k7:∀(n:Nat) (l:List Int),l.length≤n→∀(q t:List UInt8) (r:List Int),unE q l=some (t,r)→t.length+r.length<q.length+l.length∧∃p,l=p++r:=by
 intro n
 induction n with
 |zero=>
  intro l y q t r h;have:l= []:=r7 (by omega);subst this;simp [unE]at h
 |succ n z=>
  intro l y q t r h
  match l,h with
  |[],h=>simp [unE]at h
  |[b],h=>
   rw [unE]at h;split at h
   ·simp only [Option.some.injEq,Prod.mk.injEq]at h
    obtain⟨rfl,rfl⟩:=h;exact⟨by simp,[b],by simp⟩
   ·cases h
  |b::c::l,h=>
   rw [unE]at h;simp only [List.length_cons]at y;split at h
   ·split at h
    ·have:=z l (by omega) _ t r h
     simp only [List.length_append,List.length_singleton]at this;obtain⟨h1,p,rfl⟩:=this;exact⟨by simp only [List.length_cons];omega,b::c::p,by simp⟩
    ·simp only [Option.some.injEq,Prod.mk.injEq]at h
     obtain⟨rfl,rfl⟩:=h;exact⟨by simp only [List.length_cons];omega,[b],by simp⟩
   ·have:=z (c::l) (by simp only [List.length_cons];omega) _ t r h
    simp only [List.length_append,List.length_cons,List.length_nil]at this;obtain⟨h1,p,hp⟩:=this;exact⟨by simp only [List.length_cons];omega,b::p,by rw [hp];rfl⟩
theorem la(k:Nat)(b:Int)(l:List Int)(D:Bt l)(G:l.length<140737488355328)(V:b=5∨b=6):∃r,bu.j0 (k+1) (strOfNums l) b true=some r∧GS ((unE [] l).bind fun x=>if aX ⟨b-1,0,0,⟨x.1.toArray⟩⟩=0 then some (⟨b-1,0,0,⟨x.1.toArray⟩⟩,x.2)else none) r:=by
 rw [bu.j0];rw [rp rfl,iZ l D G,rG];cases U:unE [] l with
 |none=>
  rw [SR];by_cases h:b=6;·rw [rp h,rq (by decide)];exact⟨_,rfl,rfl⟩
  ·rw [rq h,rq (by decide)];exact⟨_,rfl,rfl⟩
 |some x=>
  obtain⟨t,r⟩:=x;have J:=(k7 l.length l (rA _) _ t r U).1;simp only [List.length_nil]at J;rw [SR];have key:∀c:Int,∃q,((bR.f c 0 0 ⟨t.toArray⟩).bind fun t298=>some (c,(0:Int),(0:Nat),(⟨t.toArray⟩:ByteArray),strOfNums r,(t298==0)))=some q∧GS (if aX ⟨c,0,0,⟨t.toArray⟩⟩=0 then some (⟨c,0,0,⟨t.toArray⟩⟩,r)else none) q:=by
   intro c;rw [qx c t (by omega),rG];refine⟨_,rfl,?_⟩;by_cases y:aX ⟨c,0,0,⟨t.toArray⟩⟩=0;·rw [rp y,y];rfl
   ·rw [rq y]
    show(aX ⟨c,0,0,⟨t.toArray⟩⟩==0)=false;rw [ry];exact y
  by_cases h:b=6;·rw [rp h,rp rfl,h];exact key 5
  ·have z:b=5:=by omega
   rw [rq h,rp rfl,z];exact key 4
theorem pP(k:Nat)(hk:30≤k)(b:Int)(l:List Int)(U:Bt (b::l))(X:l.length<140737488355328):∃r,bu.f k (strOfNums (b::l))=some r∧GS (fe (b::l)) r:=by
 have am:bt (strOfNums (b::l)) 0=b:=gq U 0;have hs:(strOfNums (b::l)).size=l.length+1:=cy _;have he:(strOfNums (b::l)).extract 1 (strOfNums (b::l)).size=strOfNums l:=by rw [ff,dv U];rfl
 have h:=U.tail;have h0:=U.head;unfold bu.f;rw [rp (by omega),rp (by omega),am,he,fe];by_cases h1:b=1;·rw [rp h1,rp h1];exact⟨_,rfl,rfl⟩
 rw [rq h1,rq h1];by_cases z:b=2
 ·rw [rp z,rp z]
  have V:=gP l h 1;cases l with
  |nil=>rw [rp (by decide)]at V;rw [show(1:Int)=((1:Nat):Int)from rfl,V,rG,rq (by decide)];exact⟨_,rfl,rfl⟩
  |cons c l=>
   have hc:=h.head;have q:Bt [c]:=fun x Y=>h x (by simp at Y;simp [Y])
   have hcs:(strOfNums [c]).size=1:=cy _;have ap:bt (strOfNums [c]) 0=c:=gq q 0;rw [rq (by simp)]at V;have htk':b6.f (strOfNums (c::l)) 1=some (strOfNums [c],strOfNums l,true):=V;rw [htk',rG,rp rfl];show∃r,(if 0<((strOfNums [c]).size:Int)then(if(bt (strOfNums [c]) 0)>1 then some ((0:Int),(0:Int),(0:Nat),(⟨#[]⟩:ByteArray),(⟨#[]⟩:ByteArray),false)else some (1,wrap64 (bt (strOfNums [c]) 0),0,(⟨#[]⟩:ByteArray),strOfNums l,true))else none)=some r∧_;rw [rp (by omega),ap];show∃r,_=some r∧GS (if c>1 then none else some (⟨1,c,0,⟨#[]⟩⟩,l)) r;by_cases q:c>1;·rw [rp q,rp q];exact⟨_,rfl,rfl⟩
   ·rw [rq q,rq q,show wrap64 c=c from by unfold wrap64;omega];exact⟨_,rfl,rfl⟩
 rw [rq z,rq z];by_cases D:b=3
 ·rw [rp D,rp D,mg k (by omega) l h,rG]
  cases gn l with
  |none=>exact⟨_,rfl,rfl⟩
  |some x=>exact⟨_,rfl,rfl⟩
 rw [rq D,rq D];by_cases G:b=4
 ·rw [rp G,rp G]
  obtain⟨r,hr,hg⟩:=jQ k (by omega) l h;rw [hr,rG];exact⟨_,rfl,hg⟩
 rw [rq G,rq G];obtain⟨k,rfl⟩:∃m,k=m+1:=⟨k-1,by omega⟩;by_cases y:b=5
 ·rw [rp y,rp (Or.inl y),show(b==5)=true from by rw [y];rfl]
  exact la k b l h X (Or.inl y)
 rw [rq y];by_cases J:b=6
 ·rw [rp (Or.inr J),show(b==6)=true from by rw [J];rfl]
  exact la k b l h X (Or.inr J)
 have Z:¬(b=5∨b=6):=by omega
 rw [rq Z,show(b==6)=false from by rw [ry];exact J];rw [bu.j0];rw [rq (by decide)];exact⟨_,rfl,rfl⟩
structure Can (v:S84):Prop where
 ok:VOk v
 fl:v.f0=3→fC v.f2=v.f2
theorem mP:∀(d n:Nat),n<256^d→n<256^szN n:=by
 intro d
 induction d with
 |zero=>intro n h;have:n=0:=by simpa using h
        subst this;rw [dP];decide
 |succ d r=>
  intro n h;by_cases q:n=0;·subst q;rw [dP];decide
  ·rw [gQ q,Nat.add_comm,r_]
   have:=r (n/256) (by rw [r_]at h;omega);omega
theorem jx(n m:Nat)(hn:n≤8)(y:m<256^n):(18446744073709551615-m)%256^n=256^n-1-m∧18446744073709551615-m=(256^(8-n)-1)*256^n+(256^n-1-m):=by
 have r:18446744073709551616=256^n*256^(8-n):=by rw [←Nat.pow_add,show n+(8-n)=8 from by omega]
 obtain⟨q,h⟩:∃q,256^(8-n)=q+1:=⟨256^(8-n)-1,by have:0<256^(8-n):=Nat.pow_pos (by decide);omega⟩;rw [h,Nat.mul_add,Nat.mul_one]at r;have e:18446744073709551615-m=(256^n-1-m)+256^n*q:=by omega
 constructor;·rw [e,Nat.add_mul_mod_self_left,sv (by omega)]
 ·rw [e,h,Nat.add_sub_cancel,sA q];omega
theorem nI(b:Int)(l:List Int)(V:Bt (b::l))(w:Int)(r:List Int)(h:gn (b::l)=some (w,r)):b::l=cI w++r∧ -9223372036854775808≤w∧w≤9223372036854775807:=by
 have h0:=V.head;rw [gn]at h;obtain⟨n,hn⟩:∃n,(b-128).natAbs=n:=⟨_,rfl⟩;rw [hn]at h;unfold gN at h;by_cases U:8<n;·rw [rp U]at h;cases h
 rw [rq U]at h;by_cases X:l.length<n;·rw [rp X]at h;cases h
 rw [rq X]at h;have J:(l.take n).length=n:=by rw [r8];omega
 have D:=V.tail.take n;have am:=eW D;rw [J]at am;have hp:=gR n (by omega);split at h;case isFalse=>cases h
 rename_i q;simp only [Option.some.injEq,Prod.mk.injEq]at h;obtain⟨y,rfl⟩:=h;by_cases Y:b<128
 ·rw [ru Y]at y q
  rw [rp rfl]at y;obtain⟨x,z⟩:∃x,xN true n (l.take n)=x:=⟨_,rfl⟩;rw [z]at y q;have Z:x=256^n-1-num 0 (l.take n):=z.symm;have G:max (szN x) 1=n:=by
   rcases q.1 with h1|⟨_,h1,h2⟩;·omega
   ·subst h1;rw [dP];omega
  have ap:x<256^n:=by omega
  refine⟨?_,by omega,by omega⟩;unfold cI;rw [rq (by omega),show(-(w+1)).toNat=x from by omega,G,(jx n x (by omega) ap).2,show 256^n-1-x=num 0 (l.take n)from by omega];have:=kL D (256^(8-n)-1);rw [J]at this;rw [this,show((128:Int)-(n:Nat))=b from by omega,List.cons_append,List.take_append_drop]
 ·rw [rC Y]at y q
  rw [rq (by decide)]at y;obtain⟨x,z⟩:∃x,xN false n (l.take n)=x:=⟨_,rfl⟩;rw [z]at y q;have Z:num 0 (l.take n)=x:=z;have G:szN x=n:=by
   rcases q.1 with h1|⟨h1,_⟩;·exact h1
   ·cases h1
  refine⟨?_,by omega,by omega⟩;unfold cI;rw [rp (by omega),show w.toNat=x from by omega,G,←Z];have:=kL D 0;rw [J,Nat.zero_mul,Nat.zero_add]at this;rw [this,show((128:Int)+(n:Nat))=b from by omega,List.cons_append,List.take_append_drop]
theorem oY(w:Int)(Y: -9223372036854775808≤w)(h1:w≤9223372036854775807)(r:List Int):gn (cI w++r)=some (w,r):=by
 unfold cI;by_cases D:0≤w
 ·rw [rp D,List.cons_append,gn]
  have G:=eo 8 w.toNat (by omega);have h:=mP 8 w.toNat (by omega);obtain⟨n,hn⟩:∃n,szN w.toNat=n:=⟨_,rfl⟩;rw [hn]at G h⊢;rw [show((128:Int)+(n:Nat)-128).natAbs=n from by omega,rC (by omega)];have q:=ez w.toNat n;unfold gN;rw [rq (by omega),rq (by rw [rO];omega),List.take_left' q,List.drop_left' q];have y:xN false n (hB n w.toNat)=w.toNat:=by
   show num 0 (hB n w.toNat)=_;rw [kC,sv h]
  rw [y,rp ⟨Or.inl hn,by omega⟩,rq (by decide),show((w.toNat:Nat):Int)=w from by omega]
 ·rw [rq D,List.cons_append,gn]
  obtain⟨m,V⟩:∃m,(-(w+1)).toNat=m:=⟨_,rfl⟩;rw [V]
  have z:m<256^8:=by have:(256:Nat)^8=18446744073709551616:=by decide
                     omega
  have G:=eo 8 m z;have h:=mP 8 m z;obtain⟨n,hn⟩:∃n,max (szN m) 1=n:=⟨_,rfl⟩;have U:m<256^n:=rv h (sB (by decide) (by omega));rw [hn];rw [show((128:Int)-(n:Nat)-128).natAbs=n from by omega,ru (by omega)];have q:=ez (18446744073709551615-m) n;unfold gN;rw [rq (by omega),rq (by rw [rO];omega),List.take_left' q,List.drop_left' q];have y:xN true n (hB n (18446744073709551615-m))=m:=by
   show 256^n-1-num 0 (hB n (18446744073709551615-m))=m;rw [kC,(jx n m (by omega) U).1];omega
  have J:(szN m=n∨(true=true∧m=0∧n=1))∧m≤9223372036854775807:=by
   refine⟨?_,by omega⟩;by_cases X:szN m=0
   ·right
    refine⟨rfl,?_,by omega⟩;rw [X]at h;simpa using h
   ·left;omega
  rw [y,rp J,rp rfl,show-(m:Int)-1=w from by omega]
theorem qw(y:Nat)(h:y<18446744073709551616):fK (fU y)=y:=by
 unfold fK fU;split<;>split<;>omega
theorem qu(y:Nat)(h:y<18446744073709551616):fU (fK y)=y:=by
 unfold fK fU;split<;>split<;>omega
theorem pd(y:Nat)(h:y<18446744073709551616):fU y<18446744073709551616:=by
 unfold fU;split<;>omega
theorem qv(y:Nat)(h:y<18446744073709551616):fK y<18446744073709551616:=by
 unfold fK;split<;>omega
theorem kN(l:List Int)(z:Bt l)(w:Nat)(r:List Int)(h:i_ l=some (w,r)):l=hB 8 (fK w)++r∧w<18446744073709551616∧fC w=w:=by
 unfold i_ at h;split at h;·cases h
 rename_i J;split at h;case isFalse=>cases h
 rename_i D;simp only [Option.some.injEq,Prod.mk.injEq]at h;obtain⟨rfl,rfl⟩:=h;have y:(l.take 8).length=8:=by rw [r8];omega
 have q:=z.take 8;have G:=eW q;rw [y]at G;have:=kL q 0;rw [y,Nat.zero_mul,Nat.zero_add]at this;refine⟨?_,pd _ (by omega),D⟩;rw [qw _ (by omega),this,List.take_append_drop]
theorem mh(w:Nat)(q:w<18446744073709551616)(y:fC w=w)(r:List Int):i_ (hB 8 (fK w)++r)=some (w,r):=by
 have h:=ez (fK w) 8;have D:=qv w q;have z:num 0 (hB 8 (fK w))=fK w:=by rw [kC,sv (by omega)]
 unfold i_;rw [rq (by rw [rO];omega),List.take_left' h,List.drop_left' h,z,qu w q,rp y]
theorem ik(b:UInt8)(l:List UInt8):esc (b::l)=if b=0 then 0::255::esc l else b::esc l:=rfl
theorem lO:∀(n:Nat) (l:List Int),l.length≤n→Bt l→∀(y t:List UInt8) (r:List Int),unE y l=some (t,r)→∃s,t=y++s∧l=nB (esc s)++0::r:=by
 intro n
 induction n with
 |zero=>
  intro l U q y t r h;have:l= []:=r7 (by omega);subst this;simp [unE]at h
 |succ n V=>
  intro l U q y t r h
  match l,h,q with
  |[],h,_=>simp [unE]at h
  |[b],h,_=>
   rw [unE]at h;split at h
   ·rename_i J
    simp only [Option.some.injEq,Prod.mk.injEq]at h;obtain⟨rfl,rfl⟩:=h;exact⟨[],by simp,by rw [J];rfl⟩
   ·cases h
  |b::c::l,h,q=>
   rw [unE]at h;simp only [List.length_cons]at U;have J:=q.head;split at h
   ·rename_i z
    split at h
    ·rename_i Y
     obtain⟨s,G,D⟩:=V l (by omega) q.tail.tail _ t r h;refine⟨0::s,by rw [G];simp,?_⟩;rw [D,z,Y];rw [ik];rw [rp rfl];rfl
    ·simp only [Option.some.injEq,Prod.mk.injEq]at h
     obtain⟨rfl,rfl⟩:=h;exact⟨[],by simp,by rw [z];rfl⟩
   ·rename_i z
    obtain⟨s,G,D⟩:=V (c::l) (by simp only [List.length_cons];omega) q.tail _ t r h;refine⟨UInt8.ofNat b.toNat::s,by rw [G];simp,?_⟩;have Z:¬UInt8.ofNat b.toNat=0:=fun e=>by
     have:=congrArg UInt8.toNat e;rw [UInt8.toNat_ofNat']at this;have h2:(0:UInt8).toNat=0:=rfl;omega
    have X:(((UInt8.ofNat b.toNat).toNat:Nat):Int)=b:=(by rw [UInt8.toNat_ofNat'];omega);rw [ik];rw [rq Z,D];show b::_=(((UInt8.ofNat b.toNat).toNat:Nat):Int)::_;rw [X];rfl
theorem mL(r:List Int)(hr:r.getD 0 0≠255):∀(s h:List UInt8),unE h (nB (esc s)++0::r)=some (h++s,r):=by
 intro s
 induction s with
 |nil=>
  intro h;show unE h (0::r)=_;cases r with
  |nil=>rw [unE,rp rfl];simp
  |cons c r=>
   have D:c≠255:=hr;rw [unE,if_pos rfl,if_neg D];simp
 |cons b s z=>
  intro h;rw [ik];by_cases y:b=0
  ·rw [rp y]
   show unE h (0::255::(nB (esc s)++0::r))=_;rw [unE,rp rfl,rp rfl,z,y];simp
  ·rw [if_neg y]
   show unE h ((b.toNat:Int)::(nB (esc s)++0::r))=_;have G:¬(b.toNat:Int)=0:=fun e=>y (sx.1 (show b.toNat=0 from by omega))
   obtain⟨c,q,J⟩:∃c q,nB (esc s)++0::r=c::q:=by
    cases hn:nB (esc s)with
    |nil=>exact⟨0,r,rfl⟩
    |cons c q=>exact⟨c,q++0::r,rfl⟩
   have:=z (h++ [b]);rw [J]at this⊢;rw [unE,rq G,sm,UInt8.ofNat_toNat,this];simp
theorem pA(s:ByteArray)(h:s.toList= []):s=⟨#[]⟩:=by
 apply sG;apply Array.toList_inj.1;rw [←sk,h]
theorem og:(⟨#[]⟩:ByteArray).toList= []:=by rw [sk]
theorem d_{v:S84}(h:¬bw v)(q:v.f3.size≤65536):aX v=0:=by
 unfold aX;rw [rq h,rq (by omega)]
theorem Bt.suf{p r:List Int}(h:Bt (p++r)):Bt r:=fun x q=>h x (List.mem_append_right _ q)
theorem kM(l:List Int)(z:Bt l)(v:S84)(r:List Int)(h:fe l=some (v,r)):Can v∧l=cV v++r:=by
 cases l with
 |nil=>cases h
 |cons b l=>
 have D:=og;have G:(⟨#[]⟩:ByteArray).size≤65536:=by decide
 rw [fe]at h;by_cases h1:b=1
 ·rw [rp h1]at h
  simp only [Option.some.injEq,Prod.mk.injEq]at h;obtain⟨rfl,rfl⟩:=h;refine⟨⟨⟨d_ (by unfold bw;simp [D]) G,by simp,by simp,by simp⟩,fun e=>by simp at e⟩,?_⟩;rw [h1];rfl
 rw [rq h1]at h;by_cases J:b=2
 ·rw [rp J]at h
  cases l with
  |nil=>simp at h
  |cons c l=>
   have y:=z.tail.head;have hg:(c::l).getD 0 2=c:=rfl;rw [hg]at h;split at h;·cases h
   rename_i hc1;simp only [Option.some.injEq,Prod.mk.injEq]at h;obtain⟨rfl,rfl⟩:=h;refine⟨⟨⟨d_ (by unfold bw;simp only [D];simp;omega) G,by simp only;omega,by simp only;omega,by simp⟩,fun e=>by simp at e⟩,?_⟩;rw [J];rfl
 rw [rq J]at h;by_cases U:b=3
 ·rw [rp U]at h
  cases l with
  |nil=>simp [gn]at h
  |cons c l=>
   cases hg:gn (c::l)with
   |none=>rw [hg]at h;cases h
   |some x=>
    rw [hg]at h;obtain⟨w,q⟩:=x;simp only [Option.map_some,Option.some.injEq,Prod.mk.injEq]at h;obtain⟨rfl,rfl⟩:=h;obtain⟨e,hlo,hhi⟩:=nI c l z.tail w q hg;refine⟨⟨⟨d_ (by unfold bw;simp [D]) G,hlo,hhi,by simp⟩,fun e=>by simp at e⟩,?_⟩;rw [e,U];rfl
 rw [rq U]at h;by_cases V:b=4
 ·rw [rp V]at h
  cases hg:i_ l with
  |none=>rw [hg]at h;cases h
  |some x=>
   rw [hg]at h;obtain⟨w,q⟩:=x;simp only [Option.map_some,Option.some.injEq,Prod.mk.injEq]at h;obtain⟨rfl,rfl⟩:=h;obtain⟨e,hlt,y⟩:=kN l z.tail w q hg;refine⟨⟨⟨d_ (by unfold bw;simp [D]) G,by simp,by simp,hlt⟩,fun _=>y⟩,?_⟩;rw [V];show 4::l=(3+1)::(hB 8 (fK (fC w))++q);rw [y,←e];rfl
 rw [rq V]at h;by_cases Y:b=5∨b=6
 ·rw [rp Y]at h
  cases X:unE [] l with
  |none=>rw [X]at h;cases h
  |some x=>
   rw [X]at h;obtain⟨t,q⟩:=x;simp only [Option.bind_some]at h;split at h;case isFalse=>cases h
   rename_i y;simp only [Option.some.injEq,Prod.mk.injEq]at h;obtain⟨rfl,rfl⟩:=h;obtain⟨s,Z,hl⟩:=lO l.length l (rA _) z.tail [] t q X;rw [List.nil_append]at Z;subst Z;refine⟨⟨⟨y,by simp,by simp,by simp⟩,fun e=>by simp only at e;omega⟩,?_⟩;rw [hl];have e5:∀c:Int,c=4∨c=5→cV ⟨c,0,0,⟨t.toArray⟩⟩=(c+1)::(nB (esc t)++ [0]):=by
    intro c h45;unfold cV cT;rw [rq (by simp only;omega),rq (by simp only;omega),rq (by simp only;omega),rp h45];rfl
   rw [e5 (b-1) (by omega),show b-1+1=b from by omega];simp
 ·rw [if_neg Y]at h;cases h
theorem fq(v:S84)(q:Can v)(r:List Int)(hr:r.getD 0 0≠255):fe (cV v++r)=some (v,r):=by
 have hk:=q.ok.kind;have J:=q.ok.bad.1;have am:=q.ok.chk;have Y:=q.ok.fl;obtain⟨f0,f1,f2,f3⟩:=v;unfold bw at J;simp only at hk J Y;have z:f0≠4→f0≠5→f3=⟨#[]⟩:=fun a b=>pA f3 (by
  by_cases e:f3.toList= [];·exact e
  ·exact absurd (Or.inr (Or.inr (Or.inr (Or.inr (Or.inr (Or.inl ⟨a,b,e⟩)))))) J)
 unfold cV cT;simp only;by_cases h1:f0=1
 ·have h:=z (by omega) (by omega)
  have y:f2=0:=by omega
  subst h1 h y;rw [rp rfl];show fe (2::f1::r)=_;rw [fe,rq (by decide),rp rfl];show(if f1>1 then none else some ((⟨1,f1,0,⟨#[]⟩⟩:S84),r))=some ((⟨1,f1,0,⟨#[]⟩⟩:S84),r);rw [rq (by omega)]
 rw [rq h1];by_cases V:f0=2
 ·have h:=z (by omega) (by omega)
  have y:f2=0:=by omega
  subst V h y;rw [rp rfl];show fe (3::(cI f1++r))=_;rw [fe,rq (by decide),rq (by decide),rp rfl,oY f1 q.ok.lo q.ok.hi r];rfl
 rw [rq V];by_cases G:f0=3
 ·have h:=z (by omega) (by omega)
  have D:f1=0:=by omega
  have U:=q.fl G;simp only at U;subst G h D;rw [if_pos rfl,U];show fe (4::(hB 8 (fK f2)++r))=_;rw [fe,rq (by decide),rq (by decide),rq (by decide),rp rfl,mh f2 Y U r];rfl
 rw [rq G];have D:f1=0:=by omega
 have y:f2=0:=by omega
 subst D y;by_cases X:f0=4∨f0=5
 ·rw [rp X,List.cons_append,fe,rq (by omega),rq (by omega),rq (by omega),rq (by omega),rp (by omega),cS,rZ]
  have:=mL r hr f3.data.toList [];show((unE [] (nB (esc f3.data.toList)++0::r)).bind _)=_;rw [this,rG,List.nil_append,show f0+1-1=f0 from by omega];have e:(⟨f3.data.toList.toArray⟩:ByteArray)=f3:=by apply sG;simp
  simp only [e];rw [rp am]
 ·have Z:f0=0:=by omega
  have h:=z (by omega) (by omega);subst Z h;rw [rq X];show fe (1::r)=_;rw [fe,rp rfl]
theorem o3(v:S84)(h:VOk v)(r:List Int):(cV v++r).getD 0 0≠255:=by
 have:=h.kind;show v.f0+1≠255;omega
def oN(neg:Bool)(n:Nat)(l:List Int):Option (Int×List Int):=
 if 8<n then none else if l.length<n then none else
 if 9223372036854775807<xN neg n (l.take n)then none else some ((if neg=true then-(xN neg n (l.take n):Int)-1 else(xN neg n (l.take n):Int)),l.drop n)
def jM:List Int→Option (Int×List Int)
 |[]=>none
 |b::l=>oN (decide (b<128)) (b-128).natAbs l
def oO(l:List Int):Option (Nat×List Int):=if l.length<8 then none else some (fU (num 0 (l.take 8)),l.drop 8)
def fi:List Int→Option (S84×List Int)
 |[]=>none
 |b::l=>
  if b=1 then some (⟨0,0,0,⟨#[]⟩⟩,l)
  else if b=2 then(if l.getD 0 2<2 then some (⟨1,l.getD 0 2,0,⟨#[]⟩⟩,l.drop 1)else none)
  else if b=3 then(jM l).map fun x=>(⟨2,x.1,0,⟨#[]⟩⟩,x.2)
  else if b=4 then(oO l).map fun x=>(⟨3,0,x.1,⟨#[]⟩⟩,x.2)
  else if b=5∨b=6 then(unE [] l).map fun x=>(⟨b-1,0,0,⟨x.1.toArray⟩⟩,x.2)
  else none
def BR(o:Option (S84×List Int))(n:Nat)(r:Int×Int×Nat×ByteArray×Int):Prop:=
 match o with
 |none=>r.2.2.2.2=0
 |some (v,rest)=>r=(v.f0,v.f1,v.f2,v.f3,((n-rest.length:Nat):Int))
theorem mQ(t:List UInt8):strOfNums (nB t)=⟨t.toArray⟩:=by
 apply sG;apply Array.toList_inj.1;rw [strOfNums_data,nB,List.map_map];conv=>rhs;rw [show(⟨t.toArray⟩:ByteArray).data.toList=t from rfl,←List.map_id t]
 apply List.map_congr_left;intro x _;simp
theorem qC(a:ByteArray)(ha:a.size≤1024)(X Y:Int)(Z:Nat)(x3:ByteArray):∀(d i k:Nat) (h:List UInt8),a.size≤i+d→i≤a.size→d<k→h.length≤i→∃r,ag.l0 k a (nB h) i X Y Z x3=some r∧BR ((unE h ((br a).drop i)).map fun x=>(⟨X,Y,Z,⟨x.1.toArray⟩⟩,x.2)) a.size r:=by
 intro d
 induction d with
 |zero=>
  intro i k h hi am hk hl;obtain⟨k,rfl⟩:∃m,k=m+1:=⟨k-1,by omega⟩;rw [ag.l0,rq (by omega),rS (by rw [bS];omega)];exact⟨_,rfl,rfl⟩
 |succ d V=>
  intro i k h hi am hk hl;obtain⟨k,rfl⟩:∃m,k=m+1:=⟨k-1,by omega⟩;by_cases hia2:i=a.size
  ·rw [ag.l0,rq (by omega),rS (by rw [bS];omega)]
   exact⟨_,rfl,rfl⟩
  have hd:=dY a i (by omega);have hr:=fh a i;have J:=kD h;rw [ag.l0,rp (by omega),rp (by omega),w1 i (by omega)];have hsnoc:nB h++ [bt a i]=nB (h++ [UInt8.ofNat (bt a i).toNat]):=by
   unfold nB;rw [List.map_append];congr 1;show [bt a i]= [(((UInt8.ofNat (bt a i).toNat).toNat:Nat):Int)];rw [UInt8.toNat_ofNat'];congr 1;omega
  by_cases y:bt a i=0
  ·rw [rp y]
   by_cases he:i+1=a.size
   ·have G:(br a).drop (i+1)= []:=rS (by rw [bS];omega)
    rw [rp (by omega),hd,G,y,unE,rp rfl,mQ];refine⟨_,rfl,?_⟩;show _=_;rw [show a.size-([]:List Int).length=i+1 from by simp;omega]
   ·have G:=dY a (i+1) (by omega)
    rw [rq (by omega),rp (by omega),rp (by omega),hd,G,y,unE,rp rfl];by_cases D:bt a ((i+1:Nat):Int)=255
    ·rw [rp D,rp D,rp (by rw [J];omega),w1 (i+1) (by omega)]
     have hs0:nB h++ [0]=nB (h++ [0]):=(by unfold nB;rw [List.map_append];rfl);rw [hs0];exact V (i+2) k (h++ [0]) (by omega) (by omega) (by omega) (by rw [rO];simp;omega)
    ·rw [rq D,rq D,mQ,←G]
     refine⟨_,rfl,?_⟩;show _=_;rw [sq,bS,show a.size-(a.size-(i+1))=i+1 from by omega]
  ·rw [rq y,rp (by rw [J];omega),hsnoc]
   have:=V (i+1) k (h++ [UInt8.ofNat (bt a i).toNat]) (by omega) (by omega) (by omega) (by rw [rO];simp;omega);obtain⟨r,h1,z⟩:=this;refine⟨r,h1,?_⟩;rw [hd];cases U:(br a).drop (i+1)with
   |nil=>rw [U]at z;rw [unE,rq y];exact z
   |cons c q=>rw [U]at z;rw [unE,rq y];exact z
theorem pg(k:Nat)(b:Int)(n:Nat)(neg:Bool)(h:(b<0)=(neg=true))(x:Nat)(q:List Int)(m:Nat)(D:m=2+n+q.length)(hn:n≤8)(G:q.length<1000000):∃r,ag.j4 (k+1) b n x 2 0 0 ⟨#[]⟩=some r∧BR ((if 9223372036854775807<x then none else some ((if neg=true then-(x:Int)-1 else(x:Int)),q)).map fun x=>(⟨2,x.1,0,⟨#[]⟩⟩,x.2)) m r:=by
 rw [ag.j4];by_cases y:9223372036854775807<x;·rw [rp (by omega),rp y];exact⟨_,rfl,rfl⟩
 rw [rq (by omega),rq y];have z:wrap64 (2+(n:Int))=((m-q.length:Nat):Int):=by unfold wrap64;omega
 rw [z];cases neg with
 |true=>
  rw [rp (by rw [h]),rp rfl,show wrap64 ((wrap64 (-(wrap64 ((x:Int)))))-1)= -(x:Int)-1 from by unfold wrap64;omega];exact⟨_,rfl,rfl⟩
 |false=>
  rw [rq (by rw [h];decide),rq (by decide),show wrap64 ((x:Int))=x from by unfold wrap64;omega];exact⟨_,rfl,rfl⟩
theorem jo(x:Int):0≤IntKind.u64.wrap x:=by
 have h:=Int.emod_nonneg x (show(18446744073709551616:Int)≠0 by decide);rw [←bP]at h;exact h
theorem qD(k:Nat)(hk:20≤k)(c d:Int)(l:List Int)(y:Bt (c::d::l))(hl:l.length<1000000):∃r,ag.j1 k (strOfNums (c::d::l)) true 2 0 0 ⟨#[]⟩=some r∧BR ((jM (d::l)).map fun x=>(⟨2,x.1,0,⟨#[]⟩⟩,x.2)) (l.length+2) r:=by
 obtain⟨k,rfl⟩:∃m,k=m+4:=⟨k-4,by omega⟩;have ap:bt (strOfNums (c::d::l)) 1=d:=gq y 1;have Z:(strOfNums (c::d::l)).size=l.length+2:=cy _;have h0:=y.tail.head;have hw:wrap64 ((wrap64 d)-128)=d-128:=by unfold wrap64;omega
 obtain⟨n,hn⟩:∃n,(d-128).natAbs=n:=⟨_,rfl⟩;have e:ag.j1 (k+4) (strOfNums (c::d::l)) true 2 0 0 ⟨#[]⟩=ag.j2 (k+3) (strOfNums (c::d::l)) (d-128) (n:Int) 2 0 0 ⟨#[]⟩:=by
  rw [ag.j1,rp rfl,rp (by omega),ap,hw];by_cases q:d-128<0;·rw [rp q,show wrap64 (-(d-128))=(n:Int)from by unfold wrap64;omega]
  ·rw [rq q,show d-128=(n:Int)from by omega]
 rw [e,ag.j2,jM,hn];unfold oN;by_cases J:8<n;·rw [rp (by omega),ag.j3,rp rfl,rp J];exact⟨_,rfl,rfl⟩
 have am:wrap64 (2+(n:Int))=((2+n:Nat):Int):=by unfold wrap64;omega
 rw [rq (by omega),rq J,am,Z];by_cases V:l.length<n;·rw [ru (by omega),ag.j3,rp rfl,rp V];exact⟨_,rfl,rfl⟩
 rw [rC (by omega),ag.j3,rq (by decide),rq V,am,rp (by omega),Z,rp (by omega)];have av:(strOfNums (c::d::l)).extract 2 ((2+n:Nat):Int).toNat=strOfNums (l.take n):=by
  rw [←eh ((strOfNums (c::d::l)).extract 2 _),fu,dv y,sm,Nat.add_comm 2 n];rfl
 have a2:(l.take n).length=n:=by rw [r8];omega
 have U:Bt (l.take n):=y.tail.tail.take n;have X:=eW U;rw [a2]at X;rw [av,fB _ _ (by omega) U (by omega),rG];have Y:(l.drop n).length<1000000:=by rw [sq];omega
 by_cases q:d-128<0
 ·have z:decide (d<128)=true:=ru (by omega)
  have G:xN true n (l.take n)=256^n-1-num 0 (l.take n):=rfl;obtain⟨x,D⟩:∃x,xN true n (l.take n)=x:=⟨_,rfl⟩;have a1:0≤IntKind.u64.wrap (wrap64 (8*(n:Int))):=jo _;rw [rp q,rp a1,oM n _ (by omega) X,z,←G,D];exact pg _ _ n true (by rw [eq_iff_iff];exact⟨fun _=>rfl,fun _=>q⟩) x (l.drop n) _ (by rw [sq];omega) (by omega) Y
 ·have z:decide (d<128)=false:=rC (by omega)
  have G:xN false n (l.take n)=num 0 (l.take n):=rfl;obtain⟨x,D⟩:∃x,xN false n (l.take n)=x:=⟨_,rfl⟩;rw [rq q,z,←G,D];exact pg _ _ n false (by rw [eq_iff_iff];exact⟨fun h=>absurd h q,fun h=>by cases h⟩) x (l.drop n) _ (by rw [sq];omega) (by omega) Y
theorem j9(k:Nat)(a:ByteArray)(h q:Int)(r:Nat)(y:ByteArray):ag.j6 (k+1) a false h q r y=some (h,q,r,y,0):=by rw [ag.j6,rq (by decide)]
theorem ka(k:Nat)(a:ByteArray)(q:Int):ag.j5 (k+1) a false q 0 0 ⟨#[]⟩=ag.j6 k a (decide (q=4∨q=5)) q 0 0 ⟨#[]⟩:=by
 rw [ag.j5,rq (by decide)];by_cases r:q=4;·rw [rp r,ru (Or.inl r)]
 ·rw [rq r]
  by_cases y:q=5;·rw [ru (Or.inr y),show(q==5)=true from by rw [y];rfl]
  ·rw [rC (fun h=>h.elim r y),show(q==5)=false from by rw [ry];exact y]
theorem nU(k:Nat)(a:ByteArray)(h:Int)(q:h≠2):ag.j0 (k+2) a false h 0 0 ⟨#[]⟩=(if h=3 then ag.j5 k a (decide ((a.size:Int)>8)) h 0 0 ⟨#[]⟩else ag.j5 k a false h 0 0 ⟨#[]⟩):=by
 rw [ag.j0,rq (by decide),rq q,ag.j1,rq (by decide)]
theorem qE(k:Nat)(hk:2000≤k)(c:Int)(l:List Int)(h:Bt (c::l))(hl:l.length<1024)(h1:c≠2)(hc:c≠1):∃r,ag.j0 k (strOfNums (c::l)) false (c-1) 0 0 ⟨#[]⟩=some r∧BR (fi (c::l)) (l.length+1) r:=by
 obtain⟨k,rfl⟩:∃m,k=m+4:=⟨k-4,by omega⟩;have q:(strOfNums (c::l)).size=l.length+1:=cy _;rw [fi,rq hc,rq h1];by_cases J:c=3
 ·rw [rp J,ag.j0,rq (by decide),rp (by omega),q]
  cases l with
  |nil=>
   rw [rC (by simp),ag.j1,rq (by decide),rq (by omega),ka,rC (by omega),j9];exact⟨_,rfl,rfl⟩
  |cons d l=>
   rw [ru (by simp only [List.length_cons];omega),show c-1=2 from by omega];exact qD (k+3) (by omega) c d l h (by simp only [List.length_cons]at hl;omega)
 rw [rq J,nU (k+2) _ _ (by omega)];by_cases U:c=4
 ·rw [rp (by omega),rp U,q]
  unfold oO;by_cases X:l.length<8
  ·rw [rC (by omega),rp X,ka,rC (by omega),j9]
   exact⟨_,rfl,rfl⟩
  ·have hdec:decide (((l.length+1:Nat):Int)>8)=true:=ru (by omega)
   have hex:(strOfNums (c::l)).extract 1 9=strOfNums (l.take 8):=by
    rw [←eh ((strOfNums (c::l)).extract 1 9),fu,dv h];rfl
   have htl:(l.take 8).length=8:=(by rw [r8];omega);have Y:=h.tail.take 8;have Z:=eW Y;rw [htl]at Z;rw [hdec,rq X,ag.j5,rp rfl,rp (by decide),q,rp (by omega),hex,fB _ _ (by omega) Y (by omega),rG];obtain⟨y,hy⟩:∃y,num 0 (l.take 8)=y:=⟨_,rfl⟩;rw [hy]at Z⊢;have hlen:l.length+1-(l.drop 8).length=9:=(by rw [sq];omega);have G:∀x:Int,x=(fU y:Nat)→BR (Option.map (fun x=>((⟨3,0,x.1,⟨#[]⟩⟩:S84),x.2)) (some (fU y,l.drop 8))) (l.length+1) (c-1,0,x.toNat,⟨#[]⟩,9):=by
    intro x hx;show _=_;rw [hlen,hx,sm,show c-1=3 from by omega];rfl
   by_cases am:y<9223372036854775808
   ·rw [rq (by omega)]
    exact⟨_,rfl,G _ (by rw [fZ y (by omega)];unfold fU;rw [rp am])⟩
   ·rw [rp (by omega)]
    refine⟨_,rfl,G _ ?_⟩;obtain⟨z,hz⟩:∃z,y=z+9223372036854775808:=⟨y-9223372036854775808,by omega⟩;subst hz;have e:=mH z (by omega);rw [show(9223372036854775808:Int)=((9223372036854775808:Nat):Int)from rfl,u64_xor _ _ (by omega) (by decide)]at e⊢;have D:z^^^9223372036854775808=z+9223372036854775808:=(by omega);unfold fU;rw [←D,Nat.xor_assoc,Nat.xor_self,Nat.xor_zero,D,rq (by omega),Nat.add_sub_cancel]
 rw [rq (by omega),rq U,ka];by_cases V:c=5∨c=6
 ·rw [rp V,ru (by omega),ag.j6,rp rfl]
  have:=qC (strOfNums (c::l)) (by omega) (c-1) 0 0 ⟨#[]⟩ l.length 1 k [] (by omega) (by omega) (by omega) (by simp);rw [dv h,q]at this;exact this
 ·rw [rq V,rC (by omega),j9]
  exact⟨_,rfl,rfl⟩
theorem o4(k:Nat)(G:2000≤k)(c:Int)(l:List Int)(h:Bt (c::l))(J:l.length<1024):∃r,ag.f k (strOfNums (c::l))=some r∧BR (fi (c::l)) (l.length+1) r:=by
 have D:bt (strOfNums (c::l)) 0=c:=gq h 0;have z:(strOfNums (c::l)).size=l.length+1:=cy _;have X:=h.head;have V:wrap64 ((wrap64 c)-1)=c-1:=by unfold wrap64;omega
 unfold ag.f;rw [rp (by omega),D,V];by_cases h1:c=1
 ·rw [rp (by omega),fi,rp h1]
  refine⟨_,rfl,?_⟩;show _=_;rw [show c-1=0 from by omega,show l.length+1-l.length=1 from by omega];rfl
 rw [rq (by omega)];by_cases y:c=2
 ·rw [rp (by omega),z]
  cases l with
  |nil=>
   obtain⟨k,rfl⟩:∃m,k=m+5:=⟨k-5,by omega⟩;rw [rq (by simp),nU (k+3) _ _ (by omega),rq (by omega),ka,rC (by omega),j9,fi,rq h1,rp y];exact⟨_,rfl,rfl⟩
  |cons d l=>
   have hd:bt (strOfNums (c::d::l)) 1=d:=gq h 1;have Y:=h.tail.head;have U:((d::l).length+1-l.length)=2:=(by simp only [List.length_cons];omega);rw [rp (by simp only [List.length_cons];omega),rp (by simp only [List.length_cons];omega),hd];obtain⟨k,rfl⟩:∃m,k=m+5:=⟨k-5,by omega⟩;rw [fi,rq h1,rp y];show∃r,_=some r∧BR (if d<2 then some ((⟨1,d,0,⟨#[]⟩⟩:S84),l)else none) _ r;by_cases q:d<2
   ·rw [ru q,rp q,ag.j0,rp rfl,z,rp (by simp only [List.length_cons];omega),hd]
    refine⟨_,rfl,?_⟩;show _=_;rw [U,show wrap64 d=d from by unfold wrap64;omega,show c-1=1 from by omega];rfl
   ·rw [rC q,rq q,nU (k+3) _ _ (by omega),rq (by omega),ka,rC (by omega),j9]
    exact⟨_,rfl,rfl⟩
 rw [rq (by omega)];exact qE k G c l h J y h1
end Go.Proofs.YtiphlfpainoeiaaGreatDoor
namespace Go.Proofs.YtiphlfpainoeiaaGreatDoor
open Go.RowKit Go.Proofs.YtiphlfpainoeiaaGreatDoorW.PrintWords Go.Lib
def Raw(base:Nat)(v:Value)(l:List UInt8)(w:World):Prop:=
 ∃g cap h q,v= .slice (some ⟨g,0,none⟩) l.length cap∧base≤g∧w.heap[g]? =some (.cells h 5 q)∧(q.2=0∨h.size≤q.1)∧l.length≤cap∧cap≤maxLen∧h.size=cap∧h.toList.take l.length=byteCells l
theorem fH(g o:Nat)(t:TypeId)(r:Nat×Nat)(P:Program):∀(vs:List Value) (i:Nat) (q:Array Value) (w:World),w.heap[g]? =some (.cells q t r)→(r.2=0∨q.size≤r.1)→o+i+vs.length≤q.size→(∀v∈vs,v.oneCell'=true)→
 (storeCells ⟨g,o,none⟩ vs i).run P w= .ok () (w.setRow g (q.toList.take (o+i)++vs++q.toList.drop (o+i+vs.length)).toArray)
 |[],i,q,w,hg,_,_,_=>by
  simp only [storeCells,List.append_nil,List.length_nil,Nat.add_zero,List.take_append_drop,Array.toArray_toList];rw [setRow_self w g q t r hg];rfl
 |v::rest,i,q,w,hg,z,y,h1=>by
  have hi:o+i<q.size:=by simp at y;omega
  have D:(⟨g,o,none⟩:Addr).add i=⟨g,o+i,none⟩:=by unfold Addr.add;split<;>simp_all
  have G:w.cell? ⟨g,o+i,none⟩=some q[o+i]:=by simp [World.cell?,hg,hi]
  have J:w.frozen? ⟨g,o+i,none⟩=false:=by
   obtain⟨a,b⟩:=r;simp only [World.frozen?,hg,Bool.and_eq_false_iff,decide_eq_false_iff_not];rcases z with h|h;·simp only at h;right;omega
   ·simp only at h;left;omega
  have U:(store ((⟨g,o,none⟩:Addr).add i) v).run P w= .ok () (w.setRow g (q.setIfInBounds (o+i) v)):=by
   rw [D,run_store P w _ v _ (h1 v (by simp)),G];simp [J,setCell_eq_setRow w g (o+i) q t r v hg]
  have X:=fH g o t r P rest (i+1) (q.setIfInBounds (o+i) v) (w.setRow g (q.setIfInBounds (o+i) v)) (setRow_heap w g q _ t _ hg) (by simpa using z) (by simp at y⊢;omega) (fun x V=>h1 x (by simp [V]));simp only [storeCells,Sem.run_bind,U,Result.andThen_ok,X,setRow_setRow];congr 3;have e:=list_seg_step q.toList (o+i) v rest (by simp at y⊢;omega);simpa [Array.toList_setIfInBounds,Nat.add_assoc]using e
theorem Raw.cells{base:Nat}{v:Value}{l:List UInt8}{w:World}(h:Raw base v l w):∃g cap,v= .slice (some ⟨g,0,none⟩) l.length cap∧l.length≤cap∧∀j u,(byteCells l)[j]? =some u→w.cell? ((⟨g,0,none⟩:Addr).add j)=some u:=by
 obtain⟨g,cap,G,J,rfl,_,hg,_,z,_,U,D⟩:=h;refine⟨g,cap,rfl,z,fun j u q=>?_⟩;have r:(⟨g,0,none⟩:Addr).add j=⟨g,j,none⟩:=by unfold Addr.add;split<;>simp_all
 rw [r];have y:j<l.length:=by
  have:=(si.1 q).1;simpa [byteCells]using this
 rw [←D,List.getElem?_take_of_lt y]at q;simp only [World.cell?,hg];simpa using q
theorem Raw.on{base:Nat}{v:Value}{l:List UInt8}{w w1:World}(y:Below w.heap.size w w1)(h:Raw base v l w):Raw base v l w1:=by
 obtain⟨g,cap,q,r,rfl,z,hg,rest⟩:=h;exact⟨g,cap,q,r,rfl,z,aQ hg y,rest⟩
theorem Raw.conv(w:World)(s:ByteArray)(base:Nat)(q:base≤w.heap.size)(z:s.size≤140737488355328):Raw base (.slice (some ⟨w.heap.size,0,none⟩) s.size (grownCap w s.size 0 5)) s.data.toList (bytesWorld w 5 s):=by
 have r:s.size≤grownCap w s.size 0 5:=grownCap_ge w s.size 0 5;have y:(bytesCells w 5 s).size=grownCap w s.size 0 5:=by
  simp only [bytesCells,Array.size_append,Array.size_map,Array.size_replicate];have:s.data.size=s.size:=rfl;omega
 have h:s.data.toList.length=s.size:=by rw [Array.length_toList];rfl
 refine⟨w.heap.size,grownCap w s.size 0 5,_,_,by rw [h],q,bytesWorld_at_new w 5 s, .inr (rA _),by rw [h];exact r,grownCap_le_maxLen w s.size 0 5 (by simp only [maxLen];omega),y,?_⟩;simp only [bytesCells,Array.toList_append,Array.toList_map];rw [List.take_append_of_le_length (by rw [ss];exact rA _),rY (by rw [ss];exact rA _)];rfl
theorem iq(w:World)(s:ByteArray):Below w.heap.size w (bytesWorld w 5 s):=
 ⟨by simp [bytesWorld,World.freeze,World.alloc,World.drew,-World.alloc_eq,-World.drew_eq],by simp [bytesWorld,World.freeze,World.alloc,World.drew,-World.alloc_eq,-World.drew_eq],by simp [bytesWorld,World.freeze,World.alloc,World.drew,-World.alloc_eq,-World.drew_eq],by rw [bytesWorld_size];omega,fun i hi=>bytesWorld_at_old w 5 s i hi⟩
theorem nC:∃i,Tryz.prog.info? 5=some i∧i.zero=some (.int .u8 0)∧i.size=1∧i.bytes=1:=by
 obtain⟨i,hi,h⟩:=sd.1 L.b8;simp only [Prod.mk.injEq]at h;exact⟨i,hi,h⟩
theorem gv{base:Nat}{v:Value}{l:List UInt8}{w:World}(z:TypeId)(h:Raw base v l w)(m:List UInt8)(s:ByteArray)(U:s=⟨m.toArray⟩)(hl:l.length+m.length≤140737488355328)(Y:base≤w.heap.size):
 ∃v1 w1,(Builtin.append_ #[66,9] z #[v, .string s]).run Tryz.prog w= .ok v1 w1∧Raw base v1 (l++m) w1∧w.grownBy w1 v.ownBlock:=by
 obtain⟨i,hi,hz0,r,hz2⟩:=nC;have X:s.size=m.length:=by subst U;simp [ByteArray.size]
 have G:strCells s=byteCells m:=by subst U;simp [strCells,byteCells]
 have holds:=h.cells;obtain⟨g,cap,q,D,rfl,Z,hg,J,hlc,am,hc,ht⟩:=h;obtain⟨g',cap',he,_,holds⟩:=holds;cases he;by_cases hroom:l.length+s.size≤cap
 ·have hf:=run_firstCells_string (P:=Tryz.prog) w 1 s
  have V:=fH g l.length 5 D Tryz.prog (strCells s) 0 q w hg J (by simp only [strCells_length];omega) (strCells_oneCell s);simp only [Nat.add_zero,strCells_length]at V;have hr:(Builtin.append_ #[66,9] z #[.slice (some ⟨g,0,none⟩) l.length cap, .string s]).run Tryz.prog w= .ok (.slice (some ⟨g,0,none⟩) (l.length+s.size) cap) (w.setRow g (q.toList.take l.length++strCells s++q.toList.drop (l.length+s.size)).toArray):=by
   simp [Builtin.append_,run_underlying Tryz.underlying66,run_underlying Tryz.underlying9,sizeOf,typeInfo,hi,r,Builtin.lenOf,hroom,hf,Addr.add_lit,V]
  refine⟨_,_,hr,?_,?_⟩
  ·refine⟨g,cap,_,D,by rw [rO,X],Z,setRow_heap w g q _ 5 _ hg,?_,by simp;omega,am,?_,?_⟩
   ·rcases J with h|h
    ·exact .inl h
    ·right
     simp only [List.size_toArray,List.length_append,List.length_take,List.length_drop,Array.length_toList,strCells_length];omega
   ·simp only [List.size_toArray,List.length_append,List.length_take,List.length_drop,Array.length_toList,strCells_length]
    omega
   ·rw [ht,G]
    have e:byteCells (l++m)=byteCells l++byteCells m:=(by simp [byteCells]);rw [e,show(l++m).length=(byteCells l++byteCells m).length from by simp [byteCells]];exact List.take_left
  ·exact⟨rfl,rfl,rfl,by simp,fun k _ y=>setRow_other w g k _ (fun e=>y (by simp [Value.ownBlock,e]))⟩
 ·have hr:=run_append_grow_string (P:=Tryz.prog) w 66 9 z 5 i (.int .u8 0) Tryz.underlying66 Tryz.underlying9 hi hz0 ⟨g,0,none⟩ l.length cap (byteCells l) (by rw [r,dF];omega) holds s (by omega) (by omega) (by rw [hz2];exact growslice_fits (by omega) (by omega))
  have hge:=grownCap_ge w (l.length+s.size) cap 5;have ap:grownCap w (l.length+s.size) cap 5≤maxLen:=grownCap_le_maxLen w (l.length+s.size) cap 5 (by simp only [maxLen];omega);refine⟨_,_,hr,⟨w.heap.size,_,_,(0,0),by rw [rO,X],Y,rP w.drew _, .inl rfl,by simp;omega,ap,?_,?_⟩,⟨rfl,rfl,rfl,by simp,fun k y _=>Below.heap_alloc w.drew _ k y⟩⟩
  ·have r:(Value.int IntKind.u8 0).cells.size=1:=rfl
   simp only [Array.size_append,List.size_toArray,size_zeroCells,r,dF,strCells_length];omega
  ·simp only [Array.toList_append,List.append_assoc]
   have e:byteCells (l++m)=byteCells l++byteCells m:=(by simp [byteCells]);rw [G,e,show(l++m).length=(byteCells l++byteCells m).length from by simp [byteCells]];rw [←rZ];exact List.take_left
theorem iT{base:Nat}{v:Value}{l:List UInt8}{w:World}(z:TypeId)(h:Raw base v l w)(c:UInt8)(n:Int)(hn:(c.toNat:Int)=n)(hl:l.length+1≤140737488355328)(hbase:base≤w.heap.size):
 ∃v1 w1,(Builtin.append_ #[66,66] z #[v, .slice (some ⟨w.heap.size,0,none⟩) 1 1]).run Tryz.prog (w.alloc (.cells #[.int .u8 n] 5))= .ok v1 w1∧Raw base v1 (l++ [c]) w1∧(w.alloc (.cells #[.int .u8 n] 5)).grownBy w1 v.ownBlock:=by
 subst hn;obtain⟨i,hi,hz0,q,hz2⟩:=nC;have G:Raw base v l (w.alloc (.cells #[.int .u8 c.toNat] 5)):=Raw.on (ai (rr w.heap.size w) _) h;have hnew:=rP w (.cells #[.int .u8 c.toNat] 5);have Z:base≤(w.alloc (.cells #[.int .u8 c.toNat] 5)).heap.size:=by simp;omega
 generalize w.alloc (.cells #[.int .u8 c.toNat] 5)=W at*;have V:∀j u,([.int .u8 c.toNat]:List Value)[j]? =some u→W.cell? ((⟨w.heap.size,0,none⟩:Addr).add j)=some u:=by
  intro j u hj;have Y:(⟨w.heap.size,0,none⟩:Addr).add j=⟨w.heap.size,j,none⟩:=by unfold Addr.add;split<;>simp_all
  rw [Y];simp only [World.cell?,hnew];simpa using hj
 have holds:=G.cells;obtain⟨g,cap,r,D,rfl,am,hg,U,hlc,ap,hc,ht⟩:=G;obtain⟨g',cap',he,_,holds⟩:=holds;cases he;by_cases hroom:l.length+1≤cap
 ·have J:=run_firstCells_some (P:=Tryz.prog) W i.size 1 ⟨w.heap.size,0,none⟩ 1 1 [.int .u8 c.toNat] (by simp [q]) V
  have X:=fH g l.length 5 D Tryz.prog [.int .u8 c.toNat] 0 r W hg U (by simp;omega) (by simp [Value.oneCell']);simp only [Nat.add_zero,List.length_cons,List.length_nil]at X;rw [q]at J;have hr:(Builtin.append_ #[66,66] z #[.slice (some ⟨g,0,none⟩) l.length cap, .slice (some ⟨w.heap.size,0,none⟩) 1 1]).run Tryz.prog W= .ok (.slice (some ⟨g,0,none⟩) (l.length+1) cap) (W.setRow g (r.toList.take l.length++ [Value.int .u8 c.toNat]++r.toList.drop (l.length+1)).toArray):=by
   simp [Builtin.append_,run_underlying Tryz.underlying66,sizeOf,typeInfo,hi,q,Builtin.lenOf,hroom,J,Addr.add_lit,X]
  refine⟨_,_,hr,?_,?_⟩
  ·refine⟨g,cap,_,D,by simp,am,setRow_heap W g r _ 5 _ hg,?_,by simp;omega,ap,?_,?_⟩
   ·rcases U with h|h
    ·exact .inl h
    ·right
     simp;omega
   ·simp
    omega
   ·rw [ht]
    have e:byteCells (l++ [c])=byteCells l++ [.int .u8 c.toNat]:=(by simp [byteCells]);rw [e,show(l++ [c]).length=(byteCells l++ [Value.int .u8 c.toNat]).length from by simp [byteCells]];simp only [List.append_assoc];rw [←rZ];exact List.take_left
  ·exact⟨rfl,rfl,rfl,by simp,fun k _ y=>setRow_other W g k _ (fun e=>y (by simp [Value.ownBlock,e]))⟩
 ·have hr:=run_append_grow (P:=Tryz.prog) W 66 z 5 i (.int .u8 0) Tryz.underlying66 hi hz0 ⟨g,0,none⟩ l.length cap (byteCells l) (by rw [q,dF];omega) holds ⟨w.heap.size,0,none⟩ 1 1 [.int .u8 c.toNat] (by simp [q]) V (by omega) (by omega) (by rw [hz2];exact growslice_fits (by omega) (by omega))
  have hge:=grownCap_ge W (l.length+1) cap 5;have av:grownCap W (l.length+1) cap 5≤maxLen:=grownCap_le_maxLen W (l.length+1) cap 5 (by simp only [maxLen];omega);refine⟨_,_,hr,⟨W.heap.size,_,_,(0,0),by simp,Z,rP W.drew _, .inl rfl,by simp;omega,av,?_,?_⟩,⟨rfl,rfl,rfl,by simp,fun k y _=>Below.heap_alloc W.drew _ k y⟩⟩
  ·have q:(Value.int IntKind.u8 0).cells.size=1:=rfl
   simp only [Array.size_append,List.size_toArray,size_zeroCells,q,dF,List.length_cons,List.length_nil];omega
  ·simp only [Array.toList_append,List.append_assoc]
   have e:byteCells (l++ [c])=byteCells l++ [.int .u8 c.toNat]:=(by simp [byteCells]);rw [e,show(l++ [c]).length=(byteCells l++ [Value.int .u8 c.toNat]).length from by simp [byteCells]];rw [←rZ];exact List.take_left
def lK(W q:World):Prop:=∀(g:Nat) (cs:Array Value) (t:TypeId) (h:Nat×Nat),W.heap[g]? =some (Obj.cells cs t h)→t≠5→q.heap[g]? =some (Obj.cells cs t h)
theorem Raw.keep{base:Nat}{v:Value}{l:List UInt8}{W r:World}(h:Raw base v l W)(hg:W.grownBy r v.ownBlock):lK W r:=by
 intro g cs t G q z;refine bC q hg ?_;obtain⟨U,cap,D,J,rfl,_,y,_⟩:=h;intro e;simp only [Value.ownBlock,Option.some.injEq]at e;subst e;rw [y]at q;cases q;exact z rfl
theorem Raw.base_le{base:Nat}{v:Value}{l:List UInt8}{W:World}(h:Raw base v l W):∀k,v.ownBlock=some k→base≤k:=by
 obtain⟨y,cap,q,r,rfl,z,_⟩:=h;intro k e;simp only [Value.ownBlock,Option.some.injEq]at e;omega
section
variable {ops:Array Oper} {rest:List Oper} {o:Oper} {a:Act} {Q:Exit→Act→World→Prop} {Kc:Act→World→Prop}
theorem oH{w0 W:World}{base:Nat}{v:Value}{l:List UInt8}{y:ByteArray}(s x:Operand)(q:Raw base v l W)(m:List UInt8)(Z:y=⟨m.toArray⟩)(D:Below base w0 W)(z:base≤W.heap.size)(V:l.length+m.length≤140737488355328)
 (U:o.guard=none)(ho:o.op= .call {callee:= .builtin .append,args:= #[s,x],argTypes:= #[66,9]})(X:a.eval s=v)(Y:a.eval x= .string y)
 (h:∀v1 w1,Raw base v1 (l++m) w1→Below base w0 w1→lK W w1→wpList Tryz.prog ops Q rest (a.put o.dst v1) w1):wpList Tryz.prog ops Q (o::rest) a W:=by
 refine wpList_plain U fun K J=>?_
 obtain⟨v',w',hr,G,r⟩:=gv o.type q m y Z V z;unfold Oper.wp execOp;simp only [ho,resolve,invoke,builtin,Sem.run_bind,Sem.run_pure,Result.andThen_ok,List.map_toArray,List.map_cons,List.map_nil,X,Y,hr];exact J _ _ (h v' w' G (D.grown r z q.base_le) (q.keep r))
theorem fW{w0 q W:World}{base:Nat}{v:Value}{l:List UInt8}{y:ByteArray}(s x:Operand)(D:Raw base v l q)(m:List UInt8)(hy:y=⟨m.toArray⟩)(V:Below base w0 q)(hbase0:base≤q.heap.size)(hl:l.length+m.length≤140737488355328)
 (z:W.heap=q.heap)(X:W.os=q.os)(Y:W.tape=q.tape)(Z:W.output=q.output)
 (hw:Region.wanted o (yielded ops a.tmps)=true)(ho:o.op= .call {callee:= .builtin .append,args:= #[s,x],argTypes:= #[66,9]})(hs:a.eval s=v)(hx:a.eval x= .string y)
 (h:∀v1 w1,Raw base v1 (l++m) w1→Below base w0 w1→lK W w1→Kc (a.put o.dst v1) w1):
 if Region.wanted o (yielded ops a.tmps)=true then Oper.wp Tryz.prog o a W Kc Q else Kc (a.put o.dst undef) W:=by
 rw [rp hw];have r:Raw base v l W:=by unfold Raw at D⊢;rw [z];exact D
 have U:Below base w0 W:=dc V z X Y Z;have J:base≤W.heap.size:=by rw [z];exact hbase0
 obtain⟨v',w',hr,h2,G⟩:=gv o.type r m y hy hl J;unfold Oper.wp execOp;simp only [ho,resolve,invoke,builtin,Sem.run_bind,Sem.run_pure,Result.andThen_ok,List.map_toArray,List.map_cons,List.map_nil,hs,hx,hr];exact h v' w' h2 (U.grown G J r.base_le) (r.keep G)
theorem jG{w0 W:World}{base:Nat}{v:Value}{l:List UInt8}(s x:Operand)(q:Raw base v l W)(c:UInt8)(n:Int)(hn:(c.toNat:Int)=n)(z:Below base w0 W)(y:base≤W.heap.size)(X:l.length+1≤140737488355328)
 (V:o.guard=none)(ho:o.op= .call {callee:= .builtin .append,args:= #[s,x],argTypes:= #[66,66]})(Y:a.eval s=v)(hx:a.eval x= .slice (some ⟨W.heap.size,0,none⟩) 1 1)
 (h:∀v1 w1,Raw base v1 (l++ [c]) w1→Below base w0 w1→lK W w1→wpList Tryz.prog ops Q rest (a.put o.dst v1) w1):wpList Tryz.prog ops Q (o::rest) a (W.alloc (.cells #[.int .u8 n] 5)):=by
 refine wpList_plain V fun K U=>?_
 obtain⟨v',w',hr,J,r⟩:=iT o.type q c n hn X y;have D:Raw base v l (W.alloc (.cells #[.int .u8 n] 5)):=Raw.on (ai (rr W.heap.size W) _) q;unfold Oper.wp execOp;simp only [ho,resolve,invoke,builtin,Sem.run_bind,Sem.run_pure,Result.andThen_ok,List.map_toArray,List.map_cons,List.map_nil,Y,hx,hr];refine U _ _ (h v' w' J ((z.alloc y _).grown r (by simp;omega) q.base_le) ?_);intro g cs t G hg Z;exact D.keep r g cs t G (ar hg _) Z
end
theorem gG(l:List UInt8):strOfNums (l.map fun c=>(c.toNat:Int))=⟨l.toArray⟩:=by
 have:List.map ((fun n:Int=>UInt8.ofNat n.toNat)∘fun c:UInt8=>(c.toNat:Int)) l=l:=by
  rw [show((fun n:Int=>UInt8.ofNat n.toNat)∘fun c:UInt8=>(c.toNat:Int))=id from by funext c;simp];exact List.map_id l
 simp [strOfNums,this]
theorem ku{base:Nat}{v:Value}{l:List UInt8}{W:World}(h:Raw base v l W):(convert 66 9 v).run Tryz.prog W= .ok (.string ⟨l.toArray⟩) W:=by
 obtain⟨g,cap,rfl,_,r⟩:=h.cells;rw [←gG];refine run_convert_bytes_arg W 66 5 Tryz.underlying66 Tryz.underlying5 g 0 l.length cap (l.map fun c=>(c.toNat:Int)) (by simp) (fun i hi=>?_) 9 Tryz.underlying9;have:=r i (.int .u8 ((l.map fun c=>(c.toNat:Int)).getD i 0)) (by simp [byteCells,List.getElem?_eq_getElem hi,List.getD_eq_getElem?_getD]);have q:(⟨g,0,none⟩:Addr).add i=⟨g,0+i,none⟩:=by unfold Addr.add;split<;>simp_all
 rw [q]at this;exact this
end Go.Proofs.YtiphlfpainoeiaaGreatDoor
