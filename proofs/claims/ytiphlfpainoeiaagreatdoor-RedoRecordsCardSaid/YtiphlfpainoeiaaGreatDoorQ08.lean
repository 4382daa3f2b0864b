/- Part 8 of the proof of RedoRecords (conditions: none beyond the statement's own guards). -/
import Derived.Test.YtiphlfpainoeiaaGreatDoorQ06
import Derived.Test.YtiphlfpainoeiaaGreatDoorQ07
set_option linter.unusedVariables false
set_option linter.unusedSimpArgs false
namespace Go.Proofs.YtiphlfpainoeiaaGreatDoor.L
open Go.RowKit Go.Proofs.YtiphlfpainoeiaaGreatDoorW.PrintWords Go.Proofs.YtiphlfpainoeiaaGreatDoorW.PrintLast Go.Proofs.YtiphlfpainoeiaaGreatDoorW.PrintMore
attribute [local go_sem] cj cB
noncomputable section
mutual
def bA.l0:Nat→List (S84)→List (S84)→Int→Int→Option (ByteArray×Int)
 |0,_,_,_,_=>none
 |k+1,z,y,D,h=>if h<D then(if 0≤h then(if h<(y.length:Int)then((bR.f ((af y h).f0) ((af y h).f1) ((af y h).f2) ((af y h).f3)).bind fun t172=>(if t172=0 then(bA.l0 k z y D (wrap64 (h+1)))else(some ((⟨#[]⟩:ByteArray),10))))else(none))else(none))else(bA.l1 k ([]:List Int) z (z.length:Int) 0)
def bA.l1:Nat→List Int→List (S84)→Int→Int→Option (ByteArray×Int)
 |0,_,_,_,_=>none
 |k+1,J,r,G,q=>if q<G then(if 0≤q then(if q<(r.length:Int)then((cZ.f k J ((af r q).f0) ((af r q).f1) ((af r q).f2) ((af r q).f3)).bind fun t175=>(if(t175.length:Int)>1024 then(some ((⟨#[]⟩:ByteArray),3))else(bA.l1 k t175 r G (wrap64 (q+1)))))else(none))else(none))else(some (strOfNums J,0))
end
def bA.f(k:Nat)(l0:List (S84)):Option (ByteArray×Int):=bA.l0 k l0 l0 (l0.length:Int) 0
set_option maxHeartbeats 8000000 in
set_option maxRecDepth 100000 in
theorem bA.calls(k:Nat)(A0:Option Addr)(c0:Nat)(l0:List (S84))(r1:ByteArray)(r2:Int)(w:World)(hr0:Kd.C k84 w A0 l0.length l0)(hc0:l0.length≤c0)(hG:GT w)(h:bA.f k l0=some (r1,r2)):
 Calls Tryz.prog 78 #[.slice A0 l0.length c0] w fun e w'=>e= .returned (.tuple #[.string r1, .int .i64 r2])∧Below w.heap.size w w':=by
 have HR0:=aa.mk hr0;clear hr0 hc0;have r:=aa.mk (rr w.heap.size w);have HGT:=aa.mk hG;clear hG;have H:(bA.l0 k l0 l0 (l0.length:Int) 0)=some (r1,r2):=h;clear h;have Y:=aa.mk H;clear H;go_enter Tryz.func78,Tryz.ntmps78;go_wp2
 go_loopg [11] k (fun kq v11 w'=>∃(y:Int),v11= .int .i64 y∧aa (bA.l0 kq l0 l0 (l0.length:Int) y=some (r1,r2))∧aa (kq≤k)∧aa (Below w.heap.size w w'))
 case atStart=>exact⟨(0),rfl,Y,⟨rA _⟩,⟨r.out⟩⟩
 case round=>
  clear Y;obtain⟨y,rfl,HA,HK1,r⟩:=hrel;cases gk with
  |zero=>exact absurd HA.out (by simp [bA.l0])
  |succ k1=>
   have H:=HA.out;clear HA;simp only [bA.l0]at H;by_cases c2:y<(l0.length:Int)
   ·rw [rp c2]at H
    have c2b0:decide (y<(l0.length:Int))=true:=ru c2;clear c2;by_cases c3:0≤y
    ·rw [rp c3]at H
     have c3b0:decide (0≤y)=true:=ru c3;clear c3;by_cases c4:y<(l0.length:Int)
     ·rw [rp c4]at H
      have c4b0:decide (y<(l0.length:Int))=true:=ru c4;clear c4;replace H:=rB.mp H;obtain⟨t172,A50,H⟩:=H;replace H:(if t172=0 then(bA.l0 k1 l0 l0 (l0.length:Int) (wrap64 (y+1)))else(some ((⟨#[]⟩:ByteArray),10)))=some (r1,r2):=H;have A5:=aa.mk A50;clear A50;by_cases c6:t172=0
      ·rw [rp c6]at H
       have c6b1:(t172 !=0)=false:=rV.mpr c6;clear c6;have Y:=aa.mk H;clear H;have p170:0≤(y:Int):=dA;have q170:y<(l0.length:Int):=dA;obtain⟨ad170,e170,hx170_0,hx170_1,hx170_2,hx170_3⟩:=dn HR0.out y p170 q170;cases e170;replace hx170_0:=mvO r hx170_0;replace hx170_1:=mvO r hx170_1;replace hx170_2:=mvO r hx170_2;replace hx170_3:=mvO r hx170_3;replace p170:=rF p170;replace q170:=rF q170;go_wp2_with (first|((with_reducible refine aM (N:=5) rfl ?_);refine aI ?hg (N:=5) ?hd (cs:= #[.int .i64 0, .int .i64 0, .float .f64 0, .string (⟨#[]⟩:ByteArray)]) (t:=84) ?hr ?_;(case hd=>rfl);(case hg=>rfl);(case hr=>(go_simp;done));intro gb171 hg w7 V z;have am:=aa.mk V;have GE171:=gwO hg r;replace r:=bsO r z;clear z V hg;obtain⟨hcz8_0,hcz8_1,hcz8_2,hcz8_3,hfz8_0,hfz8_1,hfz8_2,hfz8_3⟩:=cz4 am)|(go_at_call 81;(with_reducible refine(bR.calls ((af l0 y).f0) ((af l0 y).f1) ((af l0 y).f2) ((af l0 y).f3) t172 _ ?side1 A5.out).mono ?_);(case side1=>exact GT.now HGT.out (by repeat((with_reducible first|exact r.out|refine ao ?_ GE171.out))));rintro e w9 ⟨rfl,z⟩;replace am:=aa.mk (aQ (g:=gb171) (o:= .cells #[.int .i64 ((af l0 y).f0), .int .i64 ((af l0 y).f1), .float .f64 ((af l0 y).f2), .string ((af l0 y).f3)] 84 (0,0)) (by refine al (cs:= #[.int .i64 ((af l0 y).f0), .int .i64 ((af l0 y).f1), .float .f64 ((af l0 y).f2), .string (⟨#[]⟩:ByteArray)]) ?_ 3 _ rfl;refine al (cs:= #[.int .i64 ((af l0 y).f0), .int .i64 ((af l0 y).f1), .float .f64 0, .string (⟨#[]⟩:ByteArray)]) ?_ 2 _ rfl;refine al (cs:= #[.int .i64 ((af l0 y).f0), .int .i64 0, .float .f64 0, .string (⟨#[]⟩:ByteArray)]) ?_ 1 _ rfl;refine al (cs:= #[.int .i64 0, .int .i64 0, .float .f64 0, .string (⟨#[]⟩:ByteArray)]) ?_ 0 _ rfl;exact am.out) z);replace r:=aa.mk (bn (by repeat((with_reducible first|exact r.out|refine ao ?_ GE171.out))) z);(try clear z)))
       go_roundg k1
       case measure=>have:=HK1.out;omega
       case rel=>exact⟨(wrap64 (y+1)),rfl,Y,⟨by have:=HK1.out;omega⟩,⟨r.out⟩⟩
      ·rw [rq c6]at H
       have c6b1:(t172 !=0)=true:=rH.mpr c6;simp only [Option.some.injEq,Prod.mk.injEq]at H;obtain⟨rfl,rfl⟩:=H;have p170:0≤(y:Int):=dA;have q170:y<(l0.length:Int):=dA;obtain⟨ad170,e170,hx170_0,hx170_1,hx170_2,hx170_3⟩:=dn HR0.out y p170 q170;cases e170;replace hx170_0:=mvO r hx170_0;replace hx170_1:=mvO r hx170_1;replace hx170_2:=mvO r hx170_2;replace hx170_3:=mvO r hx170_3;replace p170:=rF p170;replace q170:=rF q170;go_wp2_with (first|((with_reducible refine aM (N:=5) rfl ?_);refine aI ?hg (N:=5) ?hd (cs:= #[.int .i64 0, .int .i64 0, .float .f64 0, .string (⟨#[]⟩:ByteArray)]) (t:=84) ?hr ?_;(case hd=>rfl);(case hg=>rfl);(case hr=>(go_simp;done));intro gb171 hg w10 V z;have am:=aa.mk V;have GE171:=gwO hg r;replace r:=bsO r z;clear z V hg;obtain⟨hcz11_0,hcz11_1,hcz11_2,hcz11_3,hfz11_0,hfz11_1,hfz11_2,hfz11_3⟩:=cz4 am)|(go_at_call 81;(with_reducible refine(bR.calls ((af l0 y).f0) ((af l0 y).f1) ((af l0 y).f2) ((af l0 y).f3) t172 _ ?side1 A5.out).mono ?_);(case side1=>exact GT.now HGT.out (by repeat((with_reducible first|exact r.out|refine ao ?_ GE171.out))));rintro e w12 ⟨rfl,z⟩;replace am:=aa.mk (aQ (g:=gb171) (o:= .cells #[.int .i64 ((af l0 y).f0), .int .i64 ((af l0 y).f1), .float .f64 ((af l0 y).f2), .string ((af l0 y).f3)] 84 (0,0)) (by refine al (cs:= #[.int .i64 ((af l0 y).f0), .int .i64 ((af l0 y).f1), .float .f64 ((af l0 y).f2), .string (⟨#[]⟩:ByteArray)]) ?_ 3 _ rfl;refine al (cs:= #[.int .i64 ((af l0 y).f0), .int .i64 ((af l0 y).f1), .float .f64 0, .string (⟨#[]⟩:ByteArray)]) ?_ 2 _ rfl;refine al (cs:= #[.int .i64 ((af l0 y).f0), .int .i64 0, .float .f64 0, .string (⟨#[]⟩:ByteArray)]) ?_ 1 _ rfl;refine al (cs:= #[.int .i64 0, .int .i64 0, .float .f64 0, .string (⟨#[]⟩:ByteArray)]) ?_ 0 _ rfl;exact am.out) z);replace r:=aa.mk (bn (by repeat((with_reducible first|exact r.out|refine ao ?_ GE171.out))) z);(try clear z)))
       go_ret2
       exact⟨by rfl,by exact r.out⟩
     ·rw [rq c4]at H
      exact absurd H (by simp)
    ·rw [if_neg c3]at H
     exact absurd H (by simp)
   ·rw [if_neg c2]at H
    have c2b0:decide (y<(l0.length:Int))=false:=rC c2;clear c2;have Y:=aa.mk H;clear H;go_wp2
    go_loopg [6,21] k1 (fun kq v6 v21 w'=>∃(X:List Int) (q:Int),v21= .int .i64 q∧aa (bA.l1 kq X l0 (l0.length:Int) q=some (r1,r2))∧aa (kq≤k1)∧aa (Kd.R (Kd.int .u8) 5 w' w.heap.size (fun _=>True) v6 X)∧aa (Below w.heap.size w w'))
    case atStart=>exact⟨(([]:List Int)),(0),rfl,Y,⟨rA _⟩,⟨by exact Kd.R_nil _ _ _ _ _⟩,⟨r.out⟩⟩
    case round=>
     clear Y;clear c2b0;obtain⟨X,q,rfl,HA,HK2,G,r⟩:=hrel;cases gk with
     |zero=>exact absurd HA.out (by simp [bA.l1])
     |succ k2=>
      have H:=HA.out;clear HA;simp only [bA.l1]at H;by_cases c13:q<(l0.length:Int)
      ·rw [rp c13]at H
       have c13b0:decide (q<(l0.length:Int))=true:=ru c13;clear c13;by_cases c14:0≤q
       ·rw [rp c14]at H
        have c14b0:decide (0≤q)=true:=ru c14;clear c14;by_cases c15:q<(l0.length:Int)
        ·rw [rp c15]at H
         have c15b0:decide (q<(l0.length:Int))=true:=ru c15;clear c15;replace H:=rB.mp H;obtain⟨t175,A160,H⟩:=H;replace H:(if(t175.length:Int)>1024 then(some ((⟨#[]⟩:ByteArray),3))else(bA.l1 k2 t175 l0 (l0.length:Int) (wrap64 (q+1))))=some (r1,r2):=H;have A16:=aa.mk A160;clear A160;by_cases c17:(t175.length:Int)>1024
         ·rw [rp c17]at H
          have c17b0:decide (1024<(t175.length:Int))=true:=ru c17;clear c17;simp only [Option.some.injEq,Prod.mk.injEq]at H;obtain⟨rfl,rfl⟩:=H;have p173:0≤(q:Int):=dA;have q173:q<(l0.length:Int):=dA;obtain⟨ad173,e173,hx173_0,hx173_1,hx173_2,hx173_3⟩:=dn HR0.out q p173 q173;cases e173;replace hx173_0:=mvO r hx173_0;replace hx173_1:=mvO r hx173_1;replace hx173_2:=mvO r hx173_2;replace hx173_3:=mvO r hx173_3;replace p173:=rF p173;replace q173:=rF q173;go_wp2_with (first|((with_reducible refine aM (N:=8) rfl ?_);refine aI ?hg (N:=8) ?hd (cs:= #[.int .i64 0, .int .i64 0, .float .f64 0, .string (⟨#[]⟩:ByteArray)]) (t:=84) ?hr ?_;(case hd=>rfl);(case hg=>rfl);(case hr=>(go_simp;done));intro J hg w18 V z;replace G:=aa.mk (Kd.R_below G.out z);have D:=aa.mk V;have GE174:=gwO hg r;replace r:=bsO r z;clear z V hg;obtain⟨hcz19_0,hcz19_1,hcz19_2,hcz19_3,hfz19_0,hfz19_1,hfz19_2,hfz19_3⟩:=cz4 D)|((with_reducible refine eX (t:=84) (p:=8) rfl ?_);refine eE (t:=84) (p:=8) (v:=?vo_w20) (w1:=((((w18.setCell ⟨J,0,none⟩ (.int .i64 ((af l0 q).f0))).setCell ⟨J,1,none⟩ (.int .i64 ((af l0 q).f1))).setCell ⟨J,2,none⟩ (.float .f64 ((af l0 q).f2))).setCell ⟨J,3,none⟩ (.string ((af l0 q).f3)))) ?hg ?ho ?hn ?hr ?_;(case ho=>rfl);(case hg=>rfl);(case hn=>rfl);(case hr=>(go_simp;done));intro w20 Z;have n0_:aa (Kd.R (Kd.int .u8) 5 w20 w.heap.size (fun _=>True) u6 X):=⟨(by rw [Z];exact(by exact Kd.R_mono (Kd.R_far (p:=⟨J,3,none⟩) (Kd.R_far (p:=⟨J,2,none⟩) (Kd.R_far (p:=⟨J,1,none⟩) (Kd.R_far (p:=⟨J,0,none⟩) (Kd.R_types G.out D.out (by decide)) (fun _ U=>U.2) (.int .i64 ((af l0 q).f0))) (fun _ U=>U.2) (.int .i64 ((af l0 q).f1))) (fun _ U=>U.2) (.float .f64 ((af l0 q).f2))) (fun _ U=>U.2) (.string ((af l0 q).f3))) (fun _ U=>trivial)))⟩;have n1_:aa (w20.heap[J]? =some (.cells #[.int .i64 ((af l0 q).f0), .int .i64 ((af l0 q).f1), .float .f64 ((af l0 q).f2), .string ((af l0 q).f3)] 84 (0,0))):=⟨(by rw [Z];exact(by refine al (cs:= #[.int .i64 ((af l0 q).f0), .int .i64 ((af l0 q).f1), .float .f64 ((af l0 q).f2), .string (⟨#[]⟩:ByteArray)]) ?_ 3 _ rfl;refine al (cs:= #[.int .i64 ((af l0 q).f0), .int .i64 ((af l0 q).f1), .float .f64 0, .string (⟨#[]⟩:ByteArray)]) ?_ 2 _ rfl;refine al (cs:= #[.int .i64 ((af l0 q).f0), .int .i64 0, .float .f64 0, .string (⟨#[]⟩:ByteArray)]) ?_ 1 _ rfl;refine al (cs:= #[.int .i64 0, .int .i64 0, .float .f64 0, .string (⟨#[]⟩:ByteArray)]) ?_ 0 _ rfl;exact D.out))⟩;have n2_:aa (Below w.heap.size w w20):=⟨(by rw [Z];exact(by repeat((with_reducible first|exact r.out|refine ao ?_ GE174.out))))⟩;clear Z;clear G;clear D;clear r;have G:=n0_;have D:=n1_;have r:=n2_;clear n0_ n1_ n2_;obtain⟨hcz21_0,hcz21_1,hcz21_2,hcz21_3,hfz21_0,hfz21_1,hfz21_2,hfz21_3⟩:=cz4 D;obtain⟨Ao22,co22,eo22⟩:=Kd.R_slice G.out;subst eo22)|(go_at_call 108;(with_reducible refine(cZ.calls k2 (fun k_=>some k_=(.slice Ao22 X.length co22:Value).ownBlock) (.slice Ao22 X.length co22) X ((af l0 q).f0) ((af l0 q).f1) ((af l0 q).f2) ((af l0 q).f3) t175 w _ ?side1 ?side2 ?side3 A16.out).mono ?_);(case side1=>repeat(with_reducible exact r.out));(case side2=>exact Kd.R_tight rfl G.out);(case side3=>exact HGT.out);rintro e w23 ⟨v176,rfl,ho0,z,hkp⟩;replace D:=aa.mk (dM D.out hkp (fun hs_=>(fun e_=>(Kd.R_ne G.out D.out (by decide)) e_) hs_));have HO177:=aa.mk (Kd.R_mono (ok':=fun k_=>True) ho0 (fun k_ hk_=>trivial));replace r:=aa.mk (z);clear G;(try clear z);(try clear hkp);(try clear ho0);obtain⟨Ao24,co24,eo24⟩:=Kd.R_slice HO177.out;subst eo24))
          go_ret2
          exact⟨by rfl,by exact r.out⟩
         ·rw [rq c17]at H
          have c17b0:decide (1024<(t175.length:Int))=false:=rC c17;clear c17;have Y:=aa.mk H;clear H;have p173:0≤(q:Int):=dA;have q173:q<(l0.length:Int):=dA;obtain⟨ad173,e173,hx173_0,hx173_1,hx173_2,hx173_3⟩:=dn HR0.out q p173 q173;cases e173;replace hx173_0:=mvO r hx173_0;replace hx173_1:=mvO r hx173_1;replace hx173_2:=mvO r hx173_2;replace hx173_3:=mvO r hx173_3;replace p173:=rF p173;replace q173:=rF q173;go_wp2_with (first|((with_reducible refine aM (N:=8) rfl ?_);refine aI ?hg (N:=8) ?hd (cs:= #[.int .i64 0, .int .i64 0, .float .f64 0, .string (⟨#[]⟩:ByteArray)]) (t:=84) ?hr ?_;(case hd=>rfl);(case hg=>rfl);(case hr=>(go_simp;done));intro J hg w25 V z;replace G:=aa.mk (Kd.R_below G.out z);have D:=aa.mk V;have GE174:=gwO hg r;replace r:=bsO r z;clear z V hg;obtain⟨hcz26_0,hcz26_1,hcz26_2,hcz26_3,hfz26_0,hfz26_1,hfz26_2,hfz26_3⟩:=cz4 D)|((with_reducible refine eX (t:=84) (p:=8) rfl ?_);refine eE (t:=84) (p:=8) (v:=?vo_w27) (w1:=((((w25.setCell ⟨J,0,none⟩ (.int .i64 ((af l0 q).f0))).setCell ⟨J,1,none⟩ (.int .i64 ((af l0 q).f1))).setCell ⟨J,2,none⟩ (.float .f64 ((af l0 q).f2))).setCell ⟨J,3,none⟩ (.string ((af l0 q).f3)))) ?hg ?ho ?hn ?hr ?_;(case ho=>rfl);(case hg=>rfl);(case hn=>rfl);(case hr=>(go_simp;done));intro w27 Z;have n0_:aa (Kd.R (Kd.int .u8) 5 w27 w.heap.size (fun _=>True) u6 X):=⟨(by rw [Z];exact(by exact Kd.R_mono (Kd.R_far (p:=⟨J,3,none⟩) (Kd.R_far (p:=⟨J,2,none⟩) (Kd.R_far (p:=⟨J,1,none⟩) (Kd.R_far (p:=⟨J,0,none⟩) (Kd.R_types G.out D.out (by decide)) (fun _ U=>U.2) (.int .i64 ((af l0 q).f0))) (fun _ U=>U.2) (.int .i64 ((af l0 q).f1))) (fun _ U=>U.2) (.float .f64 ((af l0 q).f2))) (fun _ U=>U.2) (.string ((af l0 q).f3))) (fun _ U=>trivial)))⟩;have n1_:aa (w27.heap[J]? =some (.cells #[.int .i64 ((af l0 q).f0), .int .i64 ((af l0 q).f1), .float .f64 ((af l0 q).f2), .string ((af l0 q).f3)] 84 (0,0))):=⟨(by rw [Z];exact(by refine al (cs:= #[.int .i64 ((af l0 q).f0), .int .i64 ((af l0 q).f1), .float .f64 ((af l0 q).f2), .string (⟨#[]⟩:ByteArray)]) ?_ 3 _ rfl;refine al (cs:= #[.int .i64 ((af l0 q).f0), .int .i64 ((af l0 q).f1), .float .f64 0, .string (⟨#[]⟩:ByteArray)]) ?_ 2 _ rfl;refine al (cs:= #[.int .i64 ((af l0 q).f0), .int .i64 0, .float .f64 0, .string (⟨#[]⟩:ByteArray)]) ?_ 1 _ rfl;refine al (cs:= #[.int .i64 0, .int .i64 0, .float .f64 0, .string (⟨#[]⟩:ByteArray)]) ?_ 0 _ rfl;exact D.out))⟩;have n2_:aa (Below w.heap.size w w27):=⟨(by rw [Z];exact(by repeat((with_reducible first|exact r.out|refine ao ?_ GE174.out))))⟩;clear Z;clear G;clear D;clear r;have G:=n0_;have D:=n1_;have r:=n2_;clear n0_ n1_ n2_;obtain⟨hcz28_0,hcz28_1,hcz28_2,hcz28_3,hfz28_0,hfz28_1,hfz28_2,hfz28_3⟩:=cz4 D;obtain⟨Ao29,co29,eo29⟩:=Kd.R_slice G.out;subst eo29)|(go_at_call 108;(with_reducible refine(cZ.calls k2 (fun k_=>some k_=(.slice Ao29 X.length co29:Value).ownBlock) (.slice Ao29 X.length co29) X ((af l0 q).f0) ((af l0 q).f1) ((af l0 q).f2) ((af l0 q).f3) t175 w _ ?side1 ?side2 ?side3 A16.out).mono ?_);(case side1=>repeat(with_reducible exact r.out));(case side2=>exact Kd.R_tight rfl G.out);(case side3=>exact HGT.out);rintro e w30 ⟨v176,rfl,ho0,z,hkp⟩;replace D:=aa.mk (dM D.out hkp (fun hs_=>(fun e_=>(Kd.R_ne G.out D.out (by decide)) e_) hs_));have HO177:=aa.mk (Kd.R_mono (ok':=fun k_=>True) ho0 (fun k_ hk_=>trivial));replace r:=aa.mk (z);clear G;(try clear z);(try clear hkp);(try clear ho0);obtain⟨Ao31,co31,eo31⟩:=Kd.R_slice HO177.out;subst eo31))
          go_roundg k2
          case measure=>have:=HK1.out;have:=HK2.out;omega
          case rel=>exact⟨(t175),(wrap64 (q+1)),rfl,Y,⟨by have:=HK1.out;have:=HK2.out;omega⟩,⟨HO177.out⟩,⟨r.out⟩⟩
        ·rw [rq c15]at H
         exact absurd H (by simp)
       ·rw [if_neg c14]at H
        exact absurd H (by simp)
      ·rw [if_neg c13]at H
       have c13b0:decide (q<(l0.length:Int))=false:=rC c13;clear c13;simp only [Option.some.injEq,Prod.mk.injEq]at H;obtain⟨rfl,rfl⟩:=H;have hcv32:=dk (P:=Tryz.prog) Tryz.underlying66 Tryz.underlying5 Tryz.underlying9 (Kd.own_of_R G.out);go_wp2
       go_ret2
       exact⟨by rfl,by exact r.out⟩
mutual
def aC.l0:Nat→List (S84)→Int→Option (ByteArray×Int)
 |0,_,_=>none
 |k+1,h,q=>if q<(h.length:Int)then(if 0≤q then((cp.f ((af h q).f0) ((af h q).f1) ((af h q).f2) ((af h q).f3)).bind fun t179=>(if t179=0 then(aC.l0 k h (wrap64 (q+1)))else(some ((⟨#[]⟩:ByteArray),10))))else(none))else(aC.l1 k h ([]:List Int) 0)
def aC.l1:Nat→List (S84)→List Int→Int→Option (ByteArray×Int)
 |0,_,_,_=>none
 |k+1,h,y,r=>if r<(h.length:Int)then(if 0≤r then((bF.f k ((af h r).f0) ((af h r).f1) ((af h r).f2) ((af h r).f3)).bind fun t181=>(if y.length+t181.length<140737488355328 then((some (y++t181:List Int)).bind fun z=>(if(z.length:Int)>1024 then(some ((⟨#[]⟩:ByteArray),3))else(aC.l1 k h z (wrap64 (r+1)))))else(none)))else(none))else(some (strOfNums y,0))
end
def aC.f(k:Nat)(l0:List (S84)):Option (ByteArray×Int):=aC.l0 k l0 0
theorem aC.mono_l:∀k,(∀q y,LeO (aC.l0 k q y) (aC.l0 (k+1) q y))∧(∀q y G,LeO (aC.l1 k q y G) (aC.l1 (k+1) q y G))
 |0=>⟨fun _ _ r h=>by simp [aC.l0]at h,fun _ _ _ r h=>by simp [aC.l1]at h⟩
 |k+1=>by
  obtain⟨z,D⟩:=aC.mono_l k;refine⟨?_,?_⟩
  ·intro q y
   unfold aC.l0
   repeat' first|(with_reducible exact z _ _)|(with_reducible exact D _ _ _)|(with_reducible exact bF.mono _ _ _ _ _)|(with_reducible exact LeO.refl _)|(with_reducible exact LeO.none _)|(with_reducible refine LeO.ite ?_ ?_)|(with_reducible refine LeO.bind ?_ (fun _=>?_))|exact z _ _|exact D _ _ _|exact bF.mono _ _ _ _ _|exact LeO.none _|refine LeO.ite ?_ ?_|refine LeO.bind ?_ (fun _=>?_)
  ·intro q y G
   unfold aC.l1
   repeat' first|(with_reducible exact z _ _)|(with_reducible exact D _ _ _)|(with_reducible exact bF.mono _ _ _ _ _)|(with_reducible exact LeO.refl _)|(with_reducible exact LeO.none _)|(with_reducible refine LeO.ite ?_ ?_)|(with_reducible refine LeO.bind ?_ (fun _=>?_))|exact z _ _|exact D _ _ _|exact bF.mono _ _ _ _ _|exact LeO.none _|refine LeO.ite ?_ ?_|refine LeO.bind ?_ (fun _=>?_)
theorem aC.mono:∀a0 k,LeO (aC.f k a0) (aC.f (k+1) a0):=by
 intro a0 k;obtain⟨h,q⟩:=aC.mono_l k;unfold aC.f
 repeat' first|(with_reducible exact h _ _)|(with_reducible exact q _ _ _)|(with_reducible exact bF.mono _ _ _ _ _)|(with_reducible exact LeO.refl _)|(with_reducible exact LeO.none _)|(with_reducible refine LeO.ite ?_ ?_)|(with_reducible refine LeO.bind ?_ (fun _=>?_))|exact h _ _|exact q _ _ _|exact bF.mono _ _ _ _ _|exact LeO.none _|refine LeO.ite ?_ ?_|refine LeO.bind ?_ (fun _=>?_)
set_option maxHeartbeats 8000000 in
set_option maxRecDepth 100000 in
theorem aC.calls(k:Nat)(A0:Option Addr)(c0:Nat)(l0:List (S84))(r1:ByteArray)(r2:Int)(w:World)(hr0:Kd.C k84 w A0 l0.length l0)(hc0:l0.length≤c0)(hG:GT w)(h:aC.f k l0=some (r1,r2)):
 Calls Tryz.prog 64 #[.slice A0 l0.length c0] w fun e w'=>e= .returned (.tuple #[.string r1, .int .i64 r2])∧Below w.heap.size w w':=by
 have HR0:=aa.mk hr0;clear hr0 hc0;have q:=aa.mk (rr w.heap.size w);have HGT:=aa.mk hG;clear hG;have H:(aC.l0 k l0 0)=some (r1,r2):=h;clear h;have J:=aa.mk H;clear H;go_enter Tryz.func64,Tryz.ntmps64;go_wp2
 go_loopg [4] k (fun kq v4 w'=>∃(y:Int),v4= .int .i64 y∧aa (aC.l0 kq l0 y=some (r1,r2))∧aa (kq≤k)∧aa (Below w.heap.size w w'))
 case atStart=>exact⟨(0),rfl,J,⟨rA _⟩,⟨q.out⟩⟩
 case round=>
  clear J;obtain⟨y,rfl,Y,HK1,q⟩:=hrel;cases gk with
  |zero=>exact absurd Y.out (by simp [aC.l0])
  |succ k1=>
   have H:=Y.out;clear Y;simp only [aC.l0]at H;by_cases c2:y<(l0.length:Int)
   ·rw [rp c2]at H
    have c2b0:decide (y<(l0.length:Int))=true:=ru c2;clear c2;by_cases c3:0≤y
    ·rw [rp c3]at H
     have c3b0:decide (0≤y)=true:=ru c3;clear c3;replace H:=rB.mp H;obtain⟨t179,A40,H⟩:=H;replace H:(if t179=0 then(aC.l0 k1 l0 (wrap64 (y+1)))else(some ((⟨#[]⟩:ByteArray),10)))=some (r1,r2):=H;have A4:=aa.mk A40;clear A40;by_cases c5:t179=0
     ·rw [rp c5]at H
      have c5b1:(t179 !=0)=false:=rV.mpr c5;clear c5;have J:=aa.mk H;clear H;have p178:0≤(y:Int):=dA;have q178:y<(l0.length:Int):=dA;obtain⟨ad178,e178,hx178_0,hx178_1,hx178_2,hx178_3⟩:=dn HR0.out y p178 q178;cases e178;replace hx178_0:=mvO q hx178_0;replace hx178_1:=mvO q hx178_1;replace hx178_2:=mvO q hx178_2;replace hx178_3:=mvO q hx178_3;replace p178:=rF p178;replace q178:=rF q178;go_wp2_with ((go_at_call 88;(with_reducible refine(cp.calls ((af l0 y).f0) ((af l0 y).f1) ((af l0 y).f2) ((af l0 y).f3) t179 _ ?side1 A4.out).mono ?_);(case side1=>exact GT.now HGT.out q.out);rintro e w6 ⟨rfl,z⟩;replace q:=bsO q z;(try clear z)))
      go_roundg k1
      case measure=>have:=HK1.out;omega
      case rel=>exact⟨(wrap64 (y+1)),rfl,J,⟨by have:=HK1.out;omega⟩,⟨q.out⟩⟩
     ·rw [rq c5]at H
      have c5b1:(t179 !=0)=true:=rH.mpr c5;simp only [Option.some.injEq,Prod.mk.injEq]at H;obtain⟨rfl,rfl⟩:=H;have p178:0≤(y:Int):=dA;have q178:y<(l0.length:Int):=dA;obtain⟨ad178,e178,hx178_0,hx178_1,hx178_2,hx178_3⟩:=dn HR0.out y p178 q178;cases e178;replace hx178_0:=mvO q hx178_0;replace hx178_1:=mvO q hx178_1;replace hx178_2:=mvO q hx178_2;replace hx178_3:=mvO q hx178_3;replace p178:=rF p178;replace q178:=rF q178;go_wp2_with ((go_at_call 88;(with_reducible refine(cp.calls ((af l0 y).f0) ((af l0 y).f1) ((af l0 y).f2) ((af l0 y).f3) t179 _ ?side1 A4.out).mono ?_);(case side1=>exact GT.now HGT.out q.out);rintro e w7 ⟨rfl,z⟩;replace q:=bsO q z;(try clear z)))
      go_ret2
      exact⟨by rfl,by exact q.out⟩
    ·rw [rq c3]at H
     exact absurd H (by simp)
   ·rw [if_neg c2]at H
    have c2b0:decide (y<(l0.length:Int))=false:=rC c2;clear c2;have J:=aa.mk H;clear H;go_wp2
    go_loopg [5,6] k1 (fun kq v5 v6 w'=>∃(U:List Int) (r:Int),v6= .int .i64 r∧aa (aC.l1 kq l0 U r=some (r1,r2))∧aa (kq≤k1)∧aa (Kd.R (Kd.int .u8) 5 w' w.heap.size (fun _=>True) v5 U)∧aa (Below w.heap.size w w'))
    case atStart=>exact⟨(([]:List Int)),(0),rfl,J,⟨rA _⟩,⟨by exact Kd.R_nil _ _ _ _ _⟩,⟨q.out⟩⟩
    case round=>
     clear J;clear c2b0;obtain⟨U,r,rfl,Y,HK2,G,q⟩:=hrel;cases gk with
     |zero=>exact absurd Y.out (by simp [aC.l1])
     |succ k2=>
      have H:=Y.out;clear Y;simp only [aC.l1]at H;by_cases c8:r<(l0.length:Int)
      ·rw [rp c8]at H
       have c8b0:decide (r<(l0.length:Int))=true:=ru c8;clear c8;by_cases c9:0≤r
       ·rw [rp c9]at H
        have c9b0:decide (0≤r)=true:=ru c9;clear c9;replace H:=rB.mp H;obtain⟨t181,A100,H⟩:=H;replace H:(if U.length+t181.length<140737488355328 then((some (U++t181:List Int)).bind fun V=>(if(V.length:Int)>1024 then(some ((⟨#[]⟩:ByteArray),3))else(aC.l1 k2 l0 V (wrap64 (r+1)))))else(none))=some (r1,r2):=H;have A10:=aa.mk A100;clear A100;by_cases c11:U.length+t181.length<140737488355328
        ·rw [rp c11]at H
         have LMc11:=aa.mk c11;clear c11;obtain⟨V,hy184⟩:∃y_:List Int,y_=(U++t181):=⟨_,rfl⟩;replace H:(if(V.length:Int)>1024 then(some ((⟨#[]⟩:ByteArray),3))else(aC.l1 k2 l0 V (wrap64 (r+1))))=some (r1,r2):=by(have H2_:=(rG _ _).symm.trans H;rw [hy184];with_reducible exact H2_)
         have Ny184:=aa.mk hy184;clear hy184;by_cases c12:(V.length:Int)>1024
         ·rw [rp c12]at H
          have c12b0:decide (1024<(V.length:Int))=true:=ru c12;clear c12;simp only [Option.some.injEq,Prod.mk.injEq]at H;obtain⟨rfl,rfl⟩:=H;have p180:0≤(r:Int):=dA;have q180:r<(l0.length:Int):=dA;obtain⟨ad180,e180,hx180_0,hx180_1,hx180_2,hx180_3⟩:=dn HR0.out r p180 q180;cases e180;replace hx180_0:=mvO q hx180_0;replace hx180_1:=mvO q hx180_1;replace hx180_2:=mvO q hx180_2;replace hx180_3:=mvO q hx180_3;replace p180:=rF p180;replace q180:=rF q180;go_wp2_with (first|(go_at_call 90;(with_reducible refine(bF.calls k2 ((af l0 r).f0) ((af l0 r).f1) ((af l0 r).f2) ((af l0 r).f3) t181 _ A10.out).mono ?_);rintro e w13 ⟨v182,rfl,Z,z⟩;have D:=aa.mk (Kd.R_lower (Kd.R_new' Z (Kd.R_lt G.out)) (ay q.out));replace G:=aa.mk (Kd.R_elder' G.out (Kd.R_base Z) z);replace q:=bsO q z;(try clear z);(try clear Z);obtain⟨Ao15,co15,eo15⟩:=Kd.R_slice D.out;subst eo15)|((with_reducible refine aZ (b:= .append) (xs:= #[.tmp 25, .tmp 30]) rfl ?_);at_builtin;refine Kd.R_append_rows (Kd.int .u8) (w0:=w) w.heap.size rfl (.tmp 25) (.tmp 30) 66 5 (.int .u8 0) 1 rfl Tryz.underlying66 b8 rfl (by decide) (by omega) u5 U t181 _ _ _ (fun k_=>some k_≠(.slice Ao15 t181.length co15:Value).ownBlock) (fun _=>False) rfl rfl ?aO ?aR (fun _ _ h=>h) (fun _ h=>h.elim) ?aF ?aB ?aS ?aL ?_;(case aR=>repeat(exact(Kd.R_reads' D.out).2.2));(case aB=>exact q.out);(case aF=>exact(fun k_ X=>Kd.fresh' (Kd.R_lt D.out) k_ X));(case aO=>exact(by exact Kd.R_mono G.out (fun _ X=>X.2)));(case aS=>exact(ay q.out));(case aL=>have:=LMc11.out;omega);intro v185 w14 ho z hg hat;rw [←Ny184.out]at ho;replace D:=aa.mk (Kd.R_after (ok:=(fun _=>True)) D.out hg hat);replace q:=aa.mk (z);have HO186:=aa.mk (ho);clear G;clear ho z hg hat;obtain⟨Ao16,co16,eo16⟩:=Kd.R_slice HO186.out;subst eo16))
          go_ret2
          exact⟨by rfl,by exact q.out⟩
         ·rw [rq c12]at H
          have c12b0:decide (1024<(V.length:Int))=false:=rC c12;clear c12;have J:=aa.mk H;clear H;have p180:0≤(r:Int):=dA;have q180:r<(l0.length:Int):=dA;obtain⟨ad180,e180,hx180_0,hx180_1,hx180_2,hx180_3⟩:=dn HR0.out r p180 q180;cases e180;replace hx180_0:=mvO q hx180_0;replace hx180_1:=mvO q hx180_1;replace hx180_2:=mvO q hx180_2;replace hx180_3:=mvO q hx180_3;replace p180:=rF p180;replace q180:=rF q180;go_wp2_with (first|(go_at_call 90;(with_reducible refine(bF.calls k2 ((af l0 r).f0) ((af l0 r).f1) ((af l0 r).f2) ((af l0 r).f3) t181 _ A10.out).mono ?_);rintro e w17 ⟨v182,rfl,Z,z⟩;have D:=aa.mk (Kd.R_lower (Kd.R_new' Z (Kd.R_lt G.out)) (ay q.out));replace G:=aa.mk (Kd.R_elder' G.out (Kd.R_base Z) z);replace q:=bsO q z;(try clear z);(try clear Z);obtain⟨Ao19,co19,eo19⟩:=Kd.R_slice D.out;subst eo19)|((with_reducible refine aZ (b:= .append) (xs:= #[.tmp 25, .tmp 30]) rfl ?_);at_builtin;refine Kd.R_append_rows (Kd.int .u8) (w0:=w) w.heap.size rfl (.tmp 25) (.tmp 30) 66 5 (.int .u8 0) 1 rfl Tryz.underlying66 b8 rfl (by decide) (by omega) u5 U t181 _ _ _ (fun k_=>some k_≠(.slice Ao19 t181.length co19:Value).ownBlock) (fun _=>False) rfl rfl ?aO ?aR (fun _ _ h=>h) (fun _ h=>h.elim) ?aF ?aB ?aS ?aL ?_;(case aR=>repeat(exact(Kd.R_reads' D.out).2.2));(case aB=>exact q.out);(case aF=>exact(fun k_ X=>Kd.fresh' (Kd.R_lt D.out) k_ X));(case aO=>exact(by exact Kd.R_mono G.out (fun _ X=>X.2)));(case aS=>exact(ay q.out));(case aL=>have:=LMc11.out;omega);intro v185 w18 ho z hg hat;rw [←Ny184.out]at ho;replace D:=aa.mk (Kd.R_after (ok:=(fun _=>True)) D.out hg hat);replace q:=aa.mk (z);have HO186:=aa.mk (ho);clear G;clear ho z hg hat;obtain⟨Ao20,co20,eo20⟩:=Kd.R_slice HO186.out;subst eo20))
          go_roundg k2
          case measure=>have:=HK1.out;have:=HK2.out;omega
          case rel=>exact⟨(V),(wrap64 (r+1)),rfl,J,⟨by have:=HK1.out;have:=HK2.out;omega⟩,⟨by exact Kd.R_mono HO186.out (fun _ X=>trivial)⟩,⟨q.out⟩⟩
        ·rw [rq c11]at H
         exact absurd H (by simp)
       ·rw [if_neg c9]at H
        exact absurd H (by simp)
      ·rw [if_neg c8]at H
       have c8b0:decide (r<(l0.length:Int))=false:=rC c8;clear c8;simp only [Option.some.injEq,Prod.mk.injEq]at H;obtain⟨rfl,rfl⟩:=H;have hcv21:=dk (P:=Tryz.prog) Tryz.underlying66 Tryz.underlying5 Tryz.underlying9 (Kd.own_of_R G.out);go_wp2
       go_ret2
       exact⟨by rfl,by exact q.out⟩
def aV.l0:Nat→ByteArray→List (S84)→Int→Option ((List (S84))×Int)
 |0,_,_,_=>none
 |k+1,q,y,r=>if r<(q.size:Int)then(if 0≤r then(if r≤(q.size:Int)then((ag.f k (q.extract (r:Int).toNat q.size)).bind fun h=>(if h.2.2.2.2=0 then(some (([]:List (S84)),20))else(if y.length<3518437208883 then(aV.l0 k q (y++ [(⟨h.1,h.2.1,h.2.2.1,h.2.2.2.1⟩:S84)]) (wrap64 (r+h.2.2.2.2)))else(none))))else(none))else(none))else((aC.f k y).bind fun z=>(if z.2=0 then(if z.1.toList=q.toList then(some (y,0))else(some (([]:List (S84)),20)))else(some (([]:List (S84)),20))))
def aV.f(k:Nat)(a0:ByteArray):Option ((List (S84))×Int):=if(a0.size:Int)>1024 then(some (([]:List (S84)),3))else(aV.l0 k a0 ([]:List (S84)) 0)
theorem aV.mono_l:∀k,(∀q y z,LeO (aV.l0 k q y z) (aV.l0 (k+1) q y z))
 |0=>fun _ _ _ r h=>by simp [aV.l0]at h
 |k+1=>by
  have D:=aV.mono_l k
  ·intro q y z
   unfold aV.l0
   repeat' first|(with_reducible exact D _ _ _)|(with_reducible exact aC.mono _ _)|(with_reducible exact ag.mono _ _)|(with_reducible exact LeO.refl _)|(with_reducible exact LeO.none _)|(with_reducible refine LeO.ite ?_ ?_)|(with_reducible refine LeO.bind ?_ (fun _=>?_))|exact D _ _ _|exact aC.mono _ _|exact ag.mono _ _|exact LeO.none _|refine LeO.ite ?_ ?_|refine LeO.bind ?_ (fun _=>?_)
theorem aV.mono:∀a0 k,LeO (aV.f k a0) (aV.f (k+1) a0):=by
 intro a0 k;have h:=aV.mono_l k;unfold aV.f
 repeat' first|(with_reducible exact h _ _ _)|(with_reducible exact aC.mono _ _)|(with_reducible exact ag.mono _ _)|(with_reducible exact LeO.refl _)|(with_reducible exact LeO.none _)|(with_reducible refine LeO.ite ?_ ?_)|(with_reducible refine LeO.bind ?_ (fun _=>?_))|exact h _ _ _|exact aC.mono _ _|exact ag.mono _ _|exact LeO.none _|refine LeO.ite ?_ ?_|refine LeO.bind ?_ (fun _=>?_)
set_option maxHeartbeats 8000000 in
set_option maxRecDepth 100000 in
theorem aV.calls(k:Nat)(a0:ByteArray)(r1:List (S84))(r2:Int)(w:World)(hG:GT w)(h:aV.f k a0=some (r1,r2)):
 Calls Tryz.prog 62 #[.string a0] w fun e w'=>∃v0_:Value,e= .returned (.tuple #[v0_, .int .i64 r2])∧Kd.R k84 84 w' w.heap.size (fun _=>True) v0_ r1∧Below w.heap.size w w':=by
 have q:=aa.mk (rr w.heap.size w);have HGT:=aa.mk hG;clear hG;have H:(if(a0.size:Int)>1024 then(some (([]:List (S84)),3))else(aV.l0 k a0 ([]:List (S84)) 0))=some (r1,r2):=h;clear h;by_cases c2:(a0.size:Int)>1024
 ·rw [rp c2]at H
  have c2b0:decide (1024<(a0.size:Int))=true:=ru c2;clear c2;simp only [Option.some.injEq,Prod.mk.injEq]at H;obtain⟨rfl,rfl⟩:=H;go_enter Tryz.func62,Tryz.ntmps62;go_wp2
  go_ret2
  exact⟨_,by rfl,by exact Kd.R_nil _ _ _ _ _,by exact q.out⟩
 ·rw [rq c2]at H
  have c2b0:decide (1024<(a0.size:Int))=false:=rC c2;clear c2;have H':=aa.mk H;clear H;go_enter Tryz.func62,Tryz.ntmps62;go_wp2
  go_loopg [4,5] k (fun kq v4 v5 w'=>∃(G:List (S84)) (D:Int),v5= .int .i64 D∧aa (aV.l0 kq a0 G D=some (r1,r2))∧aa (kq≤k)∧aa (Kd.R k84 84 w' w.heap.size (fun _=>True) v4 G)∧aa (Below w.heap.size w w'))
  case atStart=>exact⟨(([]:List (S84))),(0),rfl,H',⟨rA _⟩,⟨by exact Kd.R_nil _ _ _ _ _⟩,⟨q.out⟩⟩
  case round=>
   clear H';clear c2b0;obtain⟨G,D,rfl,HA,HK1,y,q⟩:=hrel;cases gk with
   |zero=>exact absurd HA.out (by simp [aV.l0])
   |succ U=>
    have H:=HA.out;clear HA;simp only [aV.l0]at H;by_cases c3:D<(a0.size:Int)
    ·rw [rp c3]at H
     have c3b0:decide (D<(a0.size:Int))=true:=ru c3;clear c3;by_cases c4:0≤D
     ·rw [rp c4]at H
      have c4b0:=rF c4;clear c4;by_cases c5:D≤(a0.size:Int)
      ·rw [rp c5]at H
       have c5b0:=rF c5;clear c5;replace H:=rB.mp H;obtain⟨⟨t343,t344,t345,t346,t347⟩,A60,H⟩:=H;replace H:(if t347=0 then(some (([]:List (S84)),20))else(if G.length<3518437208883 then(aV.l0 U a0 (G++ [(⟨t343,t344,t345,t346⟩:S84)]) (wrap64 (D+t347)))else(none)))=some (r1,r2):=H;have A6:=aa.mk A60;clear A60;by_cases c7:t347=0
       ·rw [rp c7]at H
        have c7b0:(t347==0)=true:=rI.mpr c7;clear c7;simp only [Option.some.injEq,Prod.mk.injEq]at H;obtain⟨rfl,rfl⟩:=H;go_wp2_with (first|(go_at_call 89;(with_reducible refine(ag.calls U (a0.extract (D:Int).toNat a0.size) t343 t344 t345 t346 t347 _ A6.out).mono ?_);rintro e w8 ⟨rfl,r⟩;replace y:=aa.mk (Kd.R_below y.out r);replace q:=bsO q r;(try clear r))|((with_reducible refine aM (N:=6) rfl ?_);refine aI ?hg (N:=6) ?hd (cs:= #[.int .i64 0, .int .i64 0, .float .f64 0, .string (⟨#[]⟩:ByteArray)]) (t:=84) ?hr ?_;(case hd=>rfl);(case hg=>rfl);(case hr=>(go_simp;done));intro J hg w9 Z r;replace y:=aa.mk (Kd.R_below (Kd.R_elderB y.out J (sj hg.symm)) r);have V:=aa.mk Z;have GE348:=gwO hg q;replace q:=bsO q r;clear r Z hg;obtain⟨hcz10_0,hcz10_1,hcz10_2,hcz10_3,hfz10_0,hfz10_1,hfz10_2,hfz10_3⟩:=cz4 V))
        go_ret2
        exact⟨_,by rfl,by exact Kd.R_nil _ _ _ _ _,by repeat((with_reducible first|exact q.out|refine ao ?_ GE348.out))⟩
       ·rw [rq c7]at H
        have c7b0:(t347==0)=false:=ry.mpr c7;by_cases c11:G.length<3518437208883
        ·rw [rp c11]at H
         have LMc11:=aa.mk c11;clear c11;obtain⟨y349,hy349⟩:∃y_:List (S84),y_=(G++ [(⟨t343,t344,t345,t346⟩:S84)]):=⟨_,rfl⟩;replace H:(aV.l0 U a0 y349 (wrap64 (D+t347)))=some (r1,r2):=by(rw [hy349];with_reducible exact H)
         have Ny349:=aa.mk hy349;clear hy349;have H':=aa.mk H;clear H;go_wp2_with (first|(go_at_call 89;(with_reducible refine(ag.calls U (a0.extract (D:Int).toNat a0.size) t343 t344 t345 t346 t347 _ A6.out).mono ?_);rintro e w12 ⟨rfl,r⟩;replace y:=aa.mk (Kd.R_below y.out r);replace q:=bsO q r;(try clear r))|((with_reducible refine aM (N:=6) rfl ?_);refine aI ?hg (N:=6) ?hd (cs:= #[.int .i64 0, .int .i64 0, .float .f64 0, .string (⟨#[]⟩:ByteArray)]) (t:=84) ?hr ?_;(case hd=>rfl);(case hg=>rfl);(case hr=>(go_simp;done));intro J hg w13 Z r;replace y:=aa.mk (Kd.R_below (Kd.R_elderB y.out J (sj hg.symm)) r);have V:=aa.mk Z;have GE348:=gwO hg q;replace q:=bsO q r;clear r Z hg;obtain⟨hcz14_0,hcz14_1,hcz14_2,hcz14_3,hfz14_0,hfz14_1,hfz14_2,hfz14_3⟩:=cz4 V)|((with_reducible refine aZ (b:= .append) (xs:= #[.tmp 26, .tmp 28]) rfl ?_);at_builtin;refine Kd.R_append k84 (w0:=w) w.heap.size rfl (.tmp 26) (.tmp 28) 50 84 (.agg #[(.int .i64 0),(.int .i64 0),(.float .f64 0),(.string ⟨#[]⟩)]) 40 rfl Tryz.underlying50 ic rfl (by decide) (by omega) u4 G (⟨t343,t344,t345,t346⟩:S84) [.int .i64 t343, .int .i64 t344, .float .f64 t345, .string t346] (fun k_=>k_≠J) (fun _=>False) rfl (by(go_simp;done)) ?aP (fun _ z=>z.elim) ?aF ?aO ?aB ?aS ?aL ?_;(case aP=>exact fo _ _ _ (⟨t343,t344,t345,t346⟩:S84));(case aB=>exact(by repeat((with_reducible first|exact q.out|refine ao ?_ GE348.out))));(case aF=>exact(fun k_ z=>Kd.freshB (g:=J) (o:= .cells #[.int .i64 t343, .int .i64 t344, .float .f64 t345, .string t346] 84 (0,0)) (by refine al (cs:= #[.int .i64 t343, .int .i64 t344, .float .f64 t345, .string (⟨#[]⟩:ByteArray)]) ?_ 3 _ rfl;refine al (cs:= #[.int .i64 t343, .int .i64 t344, .float .f64 0, .string (⟨#[]⟩:ByteArray)]) ?_ 2 _ rfl;refine al (cs:= #[.int .i64 t343, .int .i64 0, .float .f64 0, .string (⟨#[]⟩:ByteArray)]) ?_ 1 _ rfl;refine al (cs:= #[.int .i64 0, .int .i64 0, .float .f64 0, .string (⟨#[]⟩:ByteArray)]) ?_ 0 _ rfl;exact V.out) k_ z));(case aO=>exact(by exact Kd.R_mono (Kd.R_far (p:=⟨J,3,none⟩) (Kd.R_far (p:=⟨J,2,none⟩) (Kd.R_far (p:=⟨J,1,none⟩) (Kd.R_far (p:=⟨J,0,none⟩) (Kd.R_mono y.out (fun k_ z=>(⟨z,z.2⟩:_∧k_≠J))) (fun _ z=>z.2) (.int .i64 t343)) (fun _ z=>z.2) (.int .i64 t344)) (fun _ z=>z.2) (.float .f64 t345)) (fun _ z=>z.2) (.string t346)) (fun _ z=>z.1.2)));(case aS=>exact(ay (by repeat((with_reducible first|exact q.out|refine ao ?_ GE348.out)))));(case aL=>have:=LMc11.out;omega);intro v350 w15 ho r hg hat;rw [←Ny349.out]at ho;replace V:=aa.mk (bC (g:=J) (o:= .cells #[.int .i64 t343, .int .i64 t344, .float .f64 t345, .string t346] 84 (0,0)) (by refine al (cs:= #[.int .i64 t343, .int .i64 t344, .float .f64 t345, .string (⟨#[]⟩:ByteArray)]) ?_ 3 _ rfl;refine al (cs:= #[.int .i64 t343, .int .i64 t344, .float .f64 0, .string (⟨#[]⟩:ByteArray)]) ?_ 2 _ rfl;refine al (cs:= #[.int .i64 t343, .int .i64 0, .float .f64 0, .string (⟨#[]⟩:ByteArray)]) ?_ 1 _ rfl;refine al (cs:= #[.int .i64 0, .int .i64 0, .float .f64 0, .string (⟨#[]⟩:ByteArray)]) ?_ 0 _ rfl;exact V.out) hg (Kd.R_away y.out (fun _ z=>z.2)));replace q:=aa.mk (r);have HO351:=aa.mk (ho);clear y;clear ho r hg hat))
         go_roundg U
         case measure=>have:=HK1.out;omega
         case rel=>exact⟨(y349),(wrap64 (D+t347)),rfl,H',⟨by have:=HK1.out;omega⟩,⟨by exact Kd.R_mono HO351.out (fun _ z=>trivial)⟩,⟨q.out⟩⟩
        ·rw [rq c11]at H
         exact absurd H (by simp)
      ·rw [if_neg c5]at H
       exact absurd H (by simp)
     ·rw [if_neg c4]at H
      exact absurd H (by simp)
    ·rw [if_neg c3]at H
     have c3b0:decide (D<(a0.size:Int))=false:=rC c3;clear c3;replace H:=rB.mp H;obtain⟨⟨t352,t353⟩,A160,H⟩:=H;replace H:(if t353=0 then(if t352.toList=a0.toList then(some (G,0))else(some (([]:List (S84)),20)))else(some (([]:List (S84)),20)))=some (r1,r2):=H;have A16:=aa.mk A160;clear A160;by_cases X:t353=0
     ·rw [rp X]at H
      have c17b1:(t353 !=0)=false:=rV.mpr X;clear X;by_cases Y:t352.toList=a0.toList
      ·rw [rp Y]at H
       have c18b0:(t352.toList==a0.toList)=true:=rI.mpr Y;clear Y;simp only [Option.some.injEq,Prod.mk.injEq]at H;obtain⟨rfl,rfl⟩:=H;obtain⟨Ao19,co19,eo19⟩:=Kd.R_slice y.out;subst eo19;go_wp2_with ((go_at_call 64;(with_reducible refine(aC.calls U _ _ G t352 t353 _ ?side1 ?side2 ?side3 A16.out).mono ?_);(case side1=>repeat(exact(Kd.R_reads' y.out).2.2));(case side2=>exact(Kd.R_reads' y.out).2.1);(case side3=>exact GT.now HGT.out q.out);rintro e w20 ⟨rfl,r⟩;replace y:=aa.mk (Kd.R_below y.out r);replace q:=bsO q r;(try clear r)))
       go_ret2
       exact⟨_,by rfl,by exact y.out,by exact q.out⟩
      ·rw [rq Y]at H
       have c18b0:(t352.toList==a0.toList)=false:=ry.mpr Y;simp only [Option.some.injEq,Prod.mk.injEq]at H;obtain⟨rfl,rfl⟩:=H;obtain⟨Ao21,co21,eo21⟩:=Kd.R_slice y.out;subst eo21;go_wp2_with ((go_at_call 64;(with_reducible refine(aC.calls U _ _ G t352 t353 _ ?side1 ?side2 ?side3 A16.out).mono ?_);(case side1=>repeat(exact(Kd.R_reads' y.out).2.2));(case side2=>exact(Kd.R_reads' y.out).2.1);(case side3=>exact GT.now HGT.out q.out);rintro e w22 ⟨rfl,r⟩;replace y:=aa.mk (Kd.R_below y.out r);replace q:=bsO q r;(try clear r)))
       go_ret2
       exact⟨_,by rfl,by exact Kd.R_nil _ _ _ _ _,by exact q.out⟩
     ·rw [rq X]at H
      have c17b1:(t353 !=0)=true:=rH.mpr X;simp only [Option.some.injEq,Prod.mk.injEq]at H;obtain⟨rfl,rfl⟩:=H;obtain⟨Ao23,co23,eo23⟩:=Kd.R_slice y.out;subst eo23;go_wp2_with ((go_at_call 64;(with_reducible refine(aC.calls U _ _ G t352 t353 _ ?side1 ?side2 ?side3 A16.out).mono ?_);(case side1=>repeat(exact(Kd.R_reads' y.out).2.2));(case side2=>exact(Kd.R_reads' y.out).2.1);(case side3=>exact GT.now HGT.out q.out);rintro e w24 ⟨rfl,r⟩;replace y:=aa.mk (Kd.R_below y.out r);replace q:=bsO q r;(try clear r)))
      go_ret2
      exact⟨_,by rfl,by exact Kd.R_nil _ _ _ _ _,by exact q.out⟩
mutual
def aY.j0:Nat→List (S84)→Bool→ByteArray→List (S86)→List Int→List (S88)→List (S90)→Option (Bool)
 |0,_,_,_,_,_,_,_=>none
 |k+1,y,J,z,r,q,D,G=>if J=true then(some false)else(aY.l0 k y 0 z r q D G)
def aY.l0:Nat→List (S84)→Int→ByteArray→List (S86)→List Int→List (S88)→List (S90)→Option (Bool)
 |0,_,_,_,_,_,_,_=>none
 |k+1,y,h,z,r,q,D,G=>if h<(y.length:Int)then(if 0≤h then(if h<(q.length:Int)then(if 0≤(rd q h)then(if(rd q h)<(r.length:Int)then(if((af y h).f0)=((bx r (rd q h)).f1)then(aY.l0 k y (wrap64 (h+1)) z r q D G)else(some false))else(none))else(none))else(none))else(none))else(some true)
end
def aY.f(k:Nat)(r:ByteArray)(y:List (S86))(q:List Int)(z:List (S88))(D:List (S90))(G:ByteArray):Option (Bool):=(aV.f k G).bind fun h=>(if h.2=0 then(aY.j0 k h.1 ((h.1.length:Int) !=(q.length:Int)) r y q z D)else(aY.j0 k h.1 true r y q z D))
set_option maxHeartbeats 8000000 in
set_option maxRecDepth 100000 in
theorem aY.calls(k:Nat)(U:ByteArray)(A0_1:Option Addr)(c0_1:Nat)(D:List (S86))(A0_2:Option Addr)(c0_2:Nat)(y:List Int)(A0_3:Option Addr)(c0_3:Nat)(G:List (S88))(A0_4:Option Addr)(c0_4:Nat)(J:List (S90))(a1:ByteArray)(r:Bool)(w:World)(hr0_1:Kd.C k86 w A0_1 D.length D)(hc0_1:D.length≤c0_1)(hr0_2:Kd.C (Kd.int .i64) w A0_2 y.length y)(hc0_2:y.length≤c0_2)(hr0_3:Kd.C k88 w A0_3 G.length G)(hc0_3:G.length≤c0_3)(hr0_4:Kd.C k90 w A0_4 J.length J)(hc0_4:J.length≤c0_4)(hG:GT w)(h:aY.f k U D y G J a1=some r):
 Calls Tryz.prog 39 #[.agg #[.string U, .slice A0_1 D.length c0_1, .slice A0_2 y.length c0_2, .slice A0_3 G.length c0_3, .slice A0_4 J.length c0_4], .string a1] w fun e w'=>e= .returned (.bool r)∧Below w.heap.size w w':=by
 have HR0_1:=aa.mk hr0_1;clear hr0_1 hc0_1;have HR0_2:=aa.mk hr0_2;clear hr0_2 hc0_2;clear hr0_3 hc0_3;clear hr0_4 hc0_4;have z:=aa.mk (rr w.heap.size w);have HGT:=aa.mk hG;clear hG;have H:((aV.f k a1).bind fun bt355=>(if bt355.2=0 then(aY.j0 k bt355.1 ((bt355.1.length:Int) !=(y.length:Int)) U D y G J)else(aY.j0 k bt355.1 true U D y G J)))=some r:=h;clear h;replace H:=rB.mp H;obtain⟨⟨t355,t356⟩,A30,H⟩:=H;replace H:(if t356=0 then(aY.j0 k t355 ((t355.length:Int) !=(y.length:Int)) U D y G J)else(aY.j0 k t355 true U D y G J))=some r:=H;have A3:=aa.mk A30;clear A30;have HC4:=aa.mk H;clear H;go_enter Tryz.func39,Tryz.ntmps39;go_upto_region 2 with(first|((with_reducible refine aM (N:=2) rfl ?_);(try(refine bD rfl ?_;dsimp only));refine aI ?hg (N:=2) ?hd (cs:= #[.string U, .slice A0_1 D.length c0_1, .slice A0_2 y.length c0_2, .slice A0_3 G.length c0_3, .slice A0_4 J.length c0_4]) (t:=48) ?hr ?_;(case hd=>rfl);(case hg=>rfl);(case hr=>(go_simp;done));intro gb354 hg w5 hbox hb;have V:=aa.mk hbox;replace z:=bsO z hb;clear hb hbox hg)|(go_at_call 62;(with_reducible refine(aV.calls k a1 t355 t356 _ ?side1 A3.out).mono ?_);(case side1=>exact GT.now HGT.out z.out);rintro e w6 ⟨v357,rfl,ho0,hb⟩;have HO358:=aa.mk (Kd.R_lower ho0 (ay z.out));replace V:=bbO V hb;replace z:=bsO z hb;(try clear hb);(try clear ho0)));go_cut [22] (fun v22 wc=>∃(kq:Nat) (x22_3:Bool),v22= .bool x22_3∧aa (aY.j0 kq t355 x22_3 U D y G J=some r)∧aa (kq≤k)∧aa (Kd.R k84 84 wc w.heap.size (fun _=>True) v357 t355)∧aa (wc.heap[gb354]? =some (.cells #[.string U,(.slice A0_1 D.length c0_1),(.slice A0_2 y.length c0_2),(.slice A0_3 G.length c0_3),(.slice A0_4 J.length c0_4)] 48 (0,0)))∧aa (Below w.heap.size w wc))
 case first=>
  have H:=HC4.out;clear HC4;by_cases c7:t356=0
  ·rw [rp c7]at H
   have c7b1:(t356 !=0)=false:=rV.mpr c7;clear c7
   (skip)
   have X:=aa.mk H;clear H;obtain⟨Ao8,co8,eo8⟩:=Kd.R_slice HO358.out;subst eo8;obtain⟨hcz9_0,hcz9_1,hcz9_2,hcz9_3,hcz9_4,hfz9_0,hfz9_1,hfz9_2,hfz9_3,hfz9_4⟩:=cz5 V;go_wp2
   go_meet
   case rel=>exact⟨_,(((t355.length:Int) !=(y.length:Int))),rfl,X,⟨by omega⟩,⟨HO358.out⟩,⟨V.out⟩,⟨z.out⟩⟩
  ·rw [rq c7]at H
   have c7b1:(t356 !=0)=true:=rH.mpr c7
   (skip)
   have X:=aa.mk H;clear H;go_wp2
   go_meet
   case rel=>exact⟨_,(true),rfl,X,⟨by omega⟩,⟨HO358.out⟩,⟨V.out⟩,⟨z.out⟩⟩
 case rest=>
  clear HC4;obtain⟨kq,x22_3,rfl,Z,HJ3,Y,V,z⟩:=hcut;cases kq with
  |zero=>exact absurd Z.out (by simp [aY.j0])
  |succ kj3=>
   have H:=Z.out;clear Z;simp only [aY.j0]at H;by_cases c10:x22_3=true
   ·subst c10
    have H1:(some false)=some r:=(by rw [rp rfl]at H;exact H);clear H;have H:=H1;clear H1;obtain rfl:=rD H;go_wp2;go_ret;exact⟨by rfl,by exact z.out⟩
   ·replace c10:=rT.mpr c10
    subst c10;have H1:(aY.l0 kj3 t355 0 U D y G J)=some r:=(by rw [rq (show¬(false=true)by decide)]at H;exact H);clear H;have H:=H1;clear H1;have X:=aa.mk H;clear H;go_wp2
    go_loopg [7] kj3 (fun kq v7 w'=>∃(q:Int),v7= .int .i64 q∧aa (aY.l0 kq t355 q U D y G J=some r)∧aa (kq≤kj3)∧aa (Kd.R k84 84 w' w.heap.size (fun _=>True) v357 t355)∧aa (w'.heap[gb354]? =some (.cells #[.string U,(.slice A0_1 D.length c0_1),(.slice A0_2 y.length c0_2),(.slice A0_3 G.length c0_3),(.slice A0_4 J.length c0_4)] 48 (0,0)))∧aa (Below w.heap.size w w'))
    case atStart=>exact⟨(0),rfl,X,⟨rA _⟩,⟨Y.out⟩,⟨V.out⟩,⟨z.out⟩⟩
    case round=>
     clear X;obtain⟨q,rfl,Z,HK2,Y,V,z⟩:=hrel;cases gk with
     |zero=>exact absurd Z.out (by simp [aY.l0])
     |succ k2=>
      have H:=Z.out;clear Z;simp only [aY.l0]at H;by_cases c11:q<(t355.length:Int)
      ·rw [rp c11]at H
       have c11b0:decide (q<(t355.length:Int))=true:=ru c11;clear c11;by_cases c12:0≤q
       ·rw [rp c12]at H
        have c12b0:decide (0≤q)=true:=ru c12;clear c12;by_cases c13:q<(y.length:Int)
        ·rw [rp c13]at H
         have c13b0:decide (q<(y.length:Int))=true:=ru c13;clear c13;by_cases c14:0≤(rd y q)
         ·rw [rp c14]at H
          have c14b0:decide (0≤(rd y q))=true:=ru c14;clear c14;by_cases c15:(rd y q)<(D.length:Int)
          ·rw [rp c15]at H
           have c15b0:decide ((rd y q)<(D.length:Int))=true:=ru c15;clear c15;by_cases c16:((af t355 q).f0)=((bx D (rd y q)).f1)
           ·rw [rp c16]at H
            have c16b1:(((af t355 q).f0) !=((bx D (rd y q)).f1))=false:=rV.mpr c16;clear c16;have X:=aa.mk H;clear H;obtain⟨Ao17,co17,eo17⟩:=Kd.R_slice Y.out;subst eo17;have p359:0≤(q:Int):=dA;have q359:q<(t355.length:Int):=dA;obtain⟨ad359,e359,hx359_0,hx359_1,hx359_2,hx359_3⟩:=dn (Kd.R_reads' Y.out).2.2 q p359 q359;cases e359;replace p359:=rF p359;replace q359:=rF q359;obtain⟨hcz18_0,hcz18_1,hcz18_2,hcz18_3,hcz18_4,hfz18_0,hfz18_1,hfz18_2,hfz18_3,hfz18_4⟩:=cz5 V;have p360:0≤(q:Int):=dA;have q360:q<(y.length:Int):=dA;obtain⟨ad360,e360,hx360_0⟩:=Kd.at_int HR0_2.out q p360 q360;cases e360;replace hx360_0:=mvO z hx360_0;replace p360:=rF p360;replace q360:=rF q360;have p361:0≤((rd y q):Int):=dA;have q361:(rd y q)<(D.length:Int):=dA;obtain⟨ad361,e361,hx361_0,hx361_1,hx361_2,hx361_3,hx361_4,hx361_5,hx361_6⟩:=eL HR0_1.out (rd y q) p361 q361;cases e361;replace hx361_0:=mvO z hx361_0;replace hx361_1:=mvO z hx361_1;replace hx361_2:=mvO z hx361_2;replace hx361_3:=mvO z hx361_3;replace hx361_4:=mvO z hx361_4;replace hx361_5:=mvO z hx361_5;replace hx361_6:=mvO z hx361_6;replace p361:=rF p361;replace q361:=rF q361;go_wp2;repeat(go_quiet (fail);try go_wp2)
            go_roundg k2
            case measure=>have:=HJ3.out;have:=HK2.out;omega
            case rel=>exact⟨(wrap64 (q+1)),rfl,X,⟨by have:=HJ3.out;have:=HK2.out;omega⟩,⟨by(with_reducible repeat(apply Kd.R_drewN));exact Y.out⟩,⟨by(with_reducible repeat(refine aH ?_ _));exact V.out⟩,⟨by repeat((with_reducible first|exact z.out|apply aq))⟩⟩
           ·rw [rq c16]at H
            have c16b1:(((af t355 q).f0) !=((bx D (rd y q)).f1))=true:=rH.mpr c16;obtain rfl:=rD H;obtain⟨Ao19,co19,eo19⟩:=Kd.R_slice Y.out;subst eo19;have p359:0≤(q:Int):=dA;have q359:q<(t355.length:Int):=dA;obtain⟨ad359,e359,hx359_0,hx359_1,hx359_2,hx359_3⟩:=dn (Kd.R_reads' Y.out).2.2 q p359 q359;cases e359;replace p359:=rF p359;replace q359:=rF q359;obtain⟨hcz20_0,hcz20_1,hcz20_2,hcz20_3,hcz20_4,hfz20_0,hfz20_1,hfz20_2,hfz20_3,hfz20_4⟩:=cz5 V;have p360:0≤(q:Int):=dA;have q360:q<(y.length:Int):=dA;obtain⟨ad360,e360,hx360_0⟩:=Kd.at_int HR0_2.out q p360 q360;cases e360;replace hx360_0:=mvO z hx360_0;replace p360:=rF p360;replace q360:=rF q360;have p361:0≤((rd y q):Int):=dA;have q361:(rd y q)<(D.length:Int):=dA;obtain⟨ad361,e361,hx361_0,hx361_1,hx361_2,hx361_3,hx361_4,hx361_5,hx361_6⟩:=eL HR0_1.out (rd y q) p361 q361;cases e361;replace hx361_0:=mvO z hx361_0;replace hx361_1:=mvO z hx361_1;replace hx361_2:=mvO z hx361_2;replace hx361_3:=mvO z hx361_3;replace hx361_4:=mvO z hx361_4;replace hx361_5:=mvO z hx361_5;replace hx361_6:=mvO z hx361_6;replace p361:=rF p361;replace q361:=rF q361;go_wp2;repeat(go_quiet (fail);try go_wp2)
            go_ret;exact⟨by rfl,by repeat((with_reducible first|exact z.out|apply aq))⟩
          ·rw [rq c15]at H
           exact absurd H (by simp)
         ·rw [if_neg c14]at H
          exact absurd H (by simp)
        ·rw [if_neg c13]at H
         exact absurd H (by simp)
       ·rw [if_neg c12]at H
        exact absurd H (by simp)
      ·rw [if_neg c11]at H
       have c11b0:decide (q<(t355.length:Int))=false:=rC c11;clear c11;obtain rfl:=rD H;obtain⟨Ao21,co21,eo21⟩:=Kd.R_slice Y.out;subst eo21;go_wp2;go_ret;exact⟨by rfl,by exact z.out⟩
def dh.f(k:Nat)(l0:List Int)(q:Int)(r:Int)(y:Nat)(h:ByteArray):Option (List Int):=if q=2 then((dR.f r).bind fun t188=>((bz.f k l0 t188).bind fun t189=>(some t189)))else(if q=3 then((b7.f k l0 (y:Int)).bind fun t192=>(some t192))else(if q=4 then((bz.f k l0 (IntKind.u64.wrap ((h.size:Int)))).bind fun t195=>(if t195.length+h.size<140737488355328 then(some (t195++br h))else(none)))else(if q=5 then((bz.f k l0 (IntKind.u64.wrap ((h.size:Int)))).bind fun t201=>(if t201.length+h.size<140737488355328 then(some (t201++br h))else(none)))else(some l0))))
def dh.T8:Bool×List (List Nat×List Nat):=(true,[([],[]),([],[]),([1],[1]),([2],[2]),([3],[3]),([0,4],[0,4]),([],[]),([6],[6]),([5,7,5],[5,7]),([8,8,0,1,2,3,4,5,6,7,8],[8])])
def dh.B8:List Nat:=[0,0,2,6,14,31,0,64,255,511]
theorem dh.tab8:dK .any (fa Tryz.f83 8)=dh.T8:=by kernel_rfl
theorem dh.bits8:dq dh.T8.2 dh.B8=true:=by kernel_rfl
set_option maxHeartbeats 8000000 in
set_option maxRecDepth 100000 in
theorem dh.calls(k:Nat)(Z:Nat→Prop)(u9000_:Value)(l0:List Int)(V:Int)(a1_1:Int)(a1_2:Nat)(U:ByteArray)(r:List Int)(w0 w:World)(hB:Below w0.heap.size w0 w)(ho0:Kd.R (Kd.int .u8) 5 w w0.heap.size Z u9000_ l0)(h:dh.f k l0 V a1_1 a1_2 U=some r):
 Calls Tryz.prog 83 #[u9000_, .agg #[.int .i64 V, .int .i64 a1_1, .float .f64 a1_2, .string U]] w fun e w'=>∃v0_:Value,e= .returned (v0_)∧Kd.R (Kd.int .u8) 5 w' w0.heap.size (fun q=>(Z q∨w.heap.size≤q)) v0_ r∧Below w0.heap.size w0 w'∧bV w w' (fun q=>Z q):=by
 have D:=aa.mk (show Kd.R (Kd.int .u8) 5 w w0.heap.size (fun q=>(Z q∨w.heap.size≤q)) u9000_ l0 from Kd.R_mono ho0 (fun q hk=>(.inl hk)));have z:=aa.mk (bV.refl w (fun q=>Z q));have J:=aa.mk hB;clear hB;have H:(if V=2 then((dR.f a1_1).bind fun t188=>((bz.f k l0 t188).bind fun t189=>(some t189)))else(if V=3 then((b7.f k l0 (a1_2:Int)).bind fun t192=>(some t192))else(if V=4 then((bz.f k l0 (IntKind.u64.wrap ((U.size:Int)))).bind fun t195=>(if t195.length+U.size<140737488355328 then(some (t195++br U))else(none)))else(if V=5 then((bz.f k l0 (IntKind.u64.wrap ((U.size:Int)))).bind fun t201=>(if t201.length+U.size<140737488355328 then(some (t201++br U))else(none)))else(some l0)))))=some r:=h;clear h;by_cases c3:V=2
 ·rw [rp c3]at H
  have c3b0:(V==2)=true:=rI.mpr c3;clear c3;replace H:=rB.mp H;obtain⟨t188,A40,H⟩:=H;replace H:((bz.f k l0 t188).bind fun t189=>(some t189))=some r:=H;have A4:=aa.mk A40;clear A40;replace H:=rB.mp H;obtain⟨t189,A50,H⟩:=H;replace H:(some t189)=some r:=H;have A5:=aa.mk A50;clear A50;obtain rfl:=rD H;go_enter Tryz.func83,Tryz.ntmps83;go_wp2_with (first|((with_reducible refine aM (N:=3) rfl ?_);refine aI ?hg (N:=3) ?hd (cs:= #[.int .i64 V, .int .i64 a1_1, .float .f64 a1_2, .string U]) (t:=84) ?hr ?_;(case hd=>rfl);(case hg=>rfl);(case hr=>(go_simp;done));intro gb187 hg w6 hbox G;replace D:=aa.mk (Kd.R_below D.out G);have y:=aa.mk hbox;replace z:=aa.mk (bV.below (S:=(fun q=>Z q)) z.out G);replace J:=bsO J G;clear G hbox hg;obtain⟨hcz7_0,hcz7_1,hcz7_2,hcz7_3,hfz7_0,hfz7_1,hfz7_2,hfz7_3⟩:=cz4 y)|(go_at_call 112;(with_reducible refine(dR.calls a1_1 t188 _ A4.out).mono ?_);rintro e w' ⟨rfl,⟨nd,rfl⟩⟩;obtain⟨Ao8,co8,eo8⟩:=Kd.R_slice D.out;subst eo8)|(go_at_call 111;(with_reducible refine(bz.calls k (fun q=>some q=(.slice Ao8 l0.length co8:Value).ownBlock) (.slice Ao8 l0.length co8) l0 t188 t189 w0 _ ?side1 ?side2 A5.out).mono ?_);(case side1=>repeat((with_reducible first|exact J.out|apply aq)));(case side2=>exact Kd.R_tight rfl D.out);rintro e w9 ⟨v190,rfl,ho0,G,hkp⟩;replace y:=aa.mk (dM y.out hkp (fun Y=>(fun e_=>(Kd.R_ne D.out y.out (by decide)) e_) Y));have HO191:=aa.mk (Kd.R_mono (ok':=fun q=>(Z q∨w.heap.size≤q)) ho0 (fun q hk_=>Or.elim hk_ (fun Y=>(D.out.1 q (Y).symm)) (fun hn_=>(.inr (rK z.out.1 hn_)))));replace z:=aa.mk (bV.then_ (S:=(fun q=>Z q)) (by repeat((with_reducible first|exact z.out|apply bV.drewN))) hkp (fun q Y=>(fun e_=>(D.out.1 q e_.symm)) Y));replace J:=aa.mk (G);clear D;(try clear G);(try clear hkp);(try clear ho0)));go_ret;exact⟨_,by rfl,by exact HO191.out,by exact J.out,by exact z.out⟩
 ·rw [rq c3]at H
  have c3b0:(V==2)=false:=ry.mpr c3;by_cases c10:V=3
  ·rw [rp c10]at H
   have c10b0:(V==3)=true:=rI.mpr c10;clear c10;replace H:=rB.mp H;obtain⟨t192,A110,H⟩:=H;replace H:(some t192)=some r:=H;have A11:=aa.mk A110;clear A110;obtain rfl:=rD H;go_enter Tryz.func83,Tryz.ntmps83;go_wp2_with (first|((with_reducible refine aM (N:=3) rfl ?_);refine aI ?hg (N:=3) ?hd (cs:= #[.int .i64 V, .int .i64 a1_1, .float .f64 a1_2, .string U]) (t:=84) ?hr ?_;(case hd=>rfl);(case hg=>rfl);(case hr=>(go_simp;done));intro gb187 hg w12 hbox G;replace D:=aa.mk (Kd.R_below D.out G);have y:=aa.mk hbox;replace z:=aa.mk (bV.below (S:=(fun q=>Z q)) z.out G);replace J:=bsO J G;clear G hbox hg;obtain⟨hcz13_0,hcz13_1,hcz13_2,hcz13_3,hfz13_0,hfz13_1,hfz13_2,hfz13_3⟩:=cz4 y;obtain⟨Ao14,co14,eo14⟩:=Kd.R_slice D.out;subst eo14)|(go_at_call 113;(with_reducible refine(b7.calls k (fun q=>some q=(.slice Ao14 l0.length co14:Value).ownBlock) (.slice Ao14 l0.length co14) l0 (a1_2:Int) t192 w0 _ ?side1 ?side2 A11.out).mono ?_);(case side1=>repeat(with_reducible exact J.out));(case side2=>exact Kd.R_tight rfl D.out);rintro e w15 ⟨v193,rfl,ho0,G,hkp⟩;replace y:=aa.mk (dM y.out hkp (fun Y=>(fun e_=>(Kd.R_ne D.out y.out (by decide)) e_) Y));have HO194:=aa.mk (Kd.R_mono (ok':=fun q=>(Z q∨w.heap.size≤q)) ho0 (fun q hk_=>Or.elim hk_ (fun Y=>(D.out.1 q (Y).symm)) (fun hn_=>(.inr (rK z.out.1 hn_)))));replace z:=aa.mk (bV.then_ (S:=(fun q=>Z q)) z.out hkp (fun q Y=>(fun e_=>(D.out.1 q e_.symm)) Y));replace J:=aa.mk (G);clear D;(try clear G);(try clear hkp);(try clear ho0)));go_ret;exact⟨_,by rfl,by exact HO194.out,by exact J.out,by exact z.out⟩
  ·rw [rq c10]at H
   have c10b0:(V==3)=false:=ry.mpr c10;by_cases c16:V=4
   ·rw [rp c16]at H
    have c16b0:(V==4)=true:=rI.mpr c16;clear c16;replace H:=rB.mp H;obtain⟨t195,A170,H⟩:=H;replace H:(if t195.length+U.size<140737488355328 then(some (t195++br U))else(none))=some r:=H;have A17:=aa.mk A170;clear A170;by_cases c18:t195.length+U.size<140737488355328
    ·rw [rp c18]at H
     have LMc18:=aa.mk c18;clear c18;obtain⟨y198,hy198⟩:∃y_:List Int,y_=(t195++br U):=⟨_,rfl⟩;replace H:(some y198)=some r:=by(rw [hy198];with_reducible exact H)
     have Ny198:=aa.mk hy198;clear hy198;obtain rfl:=rD H;go_enter Tryz.func83,Tryz.ntmps83;try go_wp2_with (((with_reducible refine aM (N:=3) rfl ?_);refine aI ?hg (N:=3) ?hd (cs:= #[.int .i64 V, .int .i64 a1_1, .float .f64 a1_2, .string U]) (t:=84) ?hr ?_;(case hd=>rfl);(case hg=>rfl);(case hr=>(go_simp;done));intro gb187 hg w19 hbox G;replace D:=aa.mk (Kd.R_below D.out G);have y:=aa.mk hbox;replace z:=aa.mk (bV.below (S:=(fun q=>Z q)) z.out G);replace J:=bsO J G;clear G hbox hg;obtain⟨hcz20_0,hcz20_1,hcz20_2,hcz20_3,hfz20_0,hfz20_1,hfz20_2,hfz20_3⟩:=cz4 y))
     have n0_:=aa.mk (Kd.R_drew D.out);have n1_:=aa.mk (aN y.out);have n2_:=aa.mk (bV.drew z.out);have n3_:=aa.mk (aJ J.out);clear D y z J;have D:=n0_;have y:=n1_;have z:=n2_;have J:=n3_;clear n0_ n1_ n2_ n3_;obtain⟨Ao22,co22,eo22⟩:=Kd.R_slice D.out
     (subst eo22)
     refine cH (n:=10) (S:=fun w'=>w'.cell? ⟨gb187,0,none⟩=some (.int .i64 V)∧w'.cell? ⟨gb187,1,none⟩=some (.int .i64 a1_1)∧w'.cell? ⟨gb187,2,none⟩=some (.float .f64 a1_2)∧w'.cell? ⟨gb187,3,none⟩=some (.string U)) (ds:=[]) #[false,false,false,false,false,false,false,false,false,false] (by kernel_rfl) rfl rfl ⟨(ab y.out 0).trans rfl,(ab y.out 1).trans rfl,(ab y.out 2).trans rfl,(ab y.out 3).trans rfl⟩ (fun hHeld=>?_);refine cw dh.tab8 dh.bits8 (fun X HW_=>?_);generalize w19.drew=w21 at D y z J hHeld⊢;refine puT 0 24 X ?_;refine puT 1 25 X ?_;refine puT 6 30 X ?_;refine taT 2 26 X HW_ hHeld ?_;refine puT 3 27 X ?_;refine puT 4 28 X ?_;refine taT 7 31 X HW_ hHeld ?_;refine onT 5 (some 29) X (fun K hK=>?_);refine dQ Tryz.func111 (by kernel_rfl) rfl #[.slice Ao22 l0.length co22, .int .u64 (IntKind.u64.wrap ((U.size:Int)))] rfl rfl rfl (by(try simp only [List.map_toArray,List.map_cons,List.map_nil]);rfl) ?_
     with_reducible refine(bz.calls k (fun q=>some q=(.slice Ao22 l0.length co22:Value).ownBlock) (.slice Ao22 l0.length co22) l0 (IntKind.u64.wrap ((U.size:Int))) t195 w0 _ ?side1 ?side2 A17.out).mono ?_
     (case side1=>repeat(with_reducible exact J.out))
     (case side2=>exact Kd.R_tight rfl D.out)
     rintro e w23 ⟨v196,rfl,ho0,G,hkp⟩;refine⟨_,rfl,?_⟩;have n0_:=aa.mk (dM y.out hkp (fun Y=>(fun e_=>(Kd.R_ne D.out y.out (by decide)) e_) Y));have n1_:=aa.mk (Kd.R_mono (ok':=fun q=>(Z q∨w.heap.size≤q)) ho0 (fun q hk_=>Or.elim hk_ (fun Y=>(D.out.1 q (Y).symm)) (fun hn_=>(.inr (rK z.out.1 hn_)))));have n2_:=aa.mk (bV.then_ (S:=(fun q=>Z q)) z.out hkp (fun q Y=>(fun e_=>(D.out.1 q e_.symm)) Y));have n3_:=aa.mk (G);clear y z J D;have y:=n0_;have HO197:=n1_;have z:=n2_;have J:=n3_;clear n0_ n1_ n2_ n3_
     (try clear G)
     (try clear hkp)
     (try clear ho0)
     refine hK.out _ _ ⟨(ab y.out 0).trans rfl,(ab y.out 1).trans rfl,(ab y.out 2).trans rfl,(ab y.out 3).trans rfl⟩ (fun hHeld=>?_);clear hK K;refine nmS ?_;refine onT 8 (some 32) X (fun K hK=>?_);refine dJ (w0:=w0) w0.heap.size rfl (.tmp 29) _ 66 9 5 rfl Tryz.underlying66 Tryz.underlying9 b8 v196 t195 U (fun q=>(Z q∨w.heap.size≤q)) rfl rfl ?aF ?aO ?aB ?aS ?aL ?_
     (case aB=>exact J.out)
     (case aF=>exact(fun q hk=>(.inr (rK z.out.1 hk))))
     (case aO=>exact HO197.out)
     (case aS=>exact(ay J.out))
     (case aL=>have:=LMc18.out;omega)
     intro v199 w24 ho G hg hat;rw [←Ny198.out]at ho;have n0_:=aa.mk (bC y.out hg (Kd.R_ne HO197.out y.out (by decide)));have n1_:=aa.mk (G);have n2_:=aa.mk (bV.of_grown (S:=(fun q=>Z q)) hg z.out (fun q e_=>(HO197.out.1 q e_)));have n3_:=aa.mk (ho);clear y J z HO197;have y:=n0_;have J:=n1_;have z:=n2_;have HO200:=n3_;clear n0_ n1_ n2_ n3_ ho G hg hat;refine hK.out _ _ ⟨(ab y.out 0).trans rfl,(ab y.out 1).trans rfl,(ab y.out 2).trans rfl,(ab y.out 3).trans rfl⟩ (fun hHeld=>?_);clear hK K;refine nmS ?_;refine puT 9 4 X ?_;refine dp (di X.out (by kernel_rfl)) ?_;try go_wp2
     go_ret;exact⟨_,by rfl,by exact HO200.out,by exact J.out,by exact z.out⟩
    ·rw [rq c18]at H
     exact absurd H (by simp)
   ·rw [if_neg c16]at H
    have c16b0:(V==4)=false:=ry.mpr c16;by_cases c25:V=5
    ·rw [rp c25]at H
     have c25b0:(V==5)=true:=rI.mpr c25;clear c25;replace H:=rB.mp H;obtain⟨t201,A260,H⟩:=H;replace H:(if t201.length+U.size<140737488355328 then(some (t201++br U))else(none))=some r:=H;have A26:=aa.mk A260;clear A260;by_cases c27:t201.length+U.size<140737488355328
     ·rw [rp c27]at H
      have LMc27:=aa.mk c27;clear c27;obtain⟨y204,hy204⟩:∃y_:List Int,y_=(t201++br U):=⟨_,rfl⟩;replace H:(some y204)=some r:=by(rw [hy204];with_reducible exact H)
      have Ny204:=aa.mk hy204;clear hy204;obtain rfl:=rD H;go_enter Tryz.func83,Tryz.ntmps83;try go_wp2_with (((with_reducible refine aM (N:=3) rfl ?_);refine aI ?hg (N:=3) ?hd (cs:= #[.int .i64 V, .int .i64 a1_1, .float .f64 a1_2, .string U]) (t:=84) ?hr ?_;(case hd=>rfl);(case hg=>rfl);(case hr=>(go_simp;done));intro gb187 hg w28 hbox G;replace D:=aa.mk (Kd.R_below D.out G);have y:=aa.mk hbox;replace z:=aa.mk (bV.below (S:=(fun q=>Z q)) z.out G);replace J:=bsO J G;clear G hbox hg;obtain⟨hcz29_0,hcz29_1,hcz29_2,hcz29_3,hfz29_0,hfz29_1,hfz29_2,hfz29_3⟩:=cz4 y))
      have n0_:=aa.mk (Kd.R_drew D.out);have n1_:=aa.mk (aN y.out);have n2_:=aa.mk (bV.drew z.out);have n3_:=aa.mk (aJ J.out);clear D y z J;have D:=n0_;have y:=n1_;have z:=n2_;have J:=n3_;clear n0_ n1_ n2_ n3_;obtain⟨Ao31,co31,eo31⟩:=Kd.R_slice D.out
      (subst eo31)
      refine cH (n:=10) (S:=fun w'=>w'.cell? ⟨gb187,0,none⟩=some (.int .i64 V)∧w'.cell? ⟨gb187,1,none⟩=some (.int .i64 a1_1)∧w'.cell? ⟨gb187,2,none⟩=some (.float .f64 a1_2)∧w'.cell? ⟨gb187,3,none⟩=some (.string U)) (ds:=[]) #[false,false,false,false,false,false,false,false,false,false] (by kernel_rfl) rfl rfl ⟨(ab y.out 0).trans rfl,(ab y.out 1).trans rfl,(ab y.out 2).trans rfl,(ab y.out 3).trans rfl⟩ (fun hHeld=>?_);refine cw dh.tab8 dh.bits8 (fun X HW_=>?_);generalize w28.drew=w30 at D y z J hHeld⊢;refine puT 0 24 X ?_;refine puT 1 25 X ?_;refine puT 6 30 X ?_;refine taT 2 26 X HW_ hHeld ?_;refine puT 3 27 X ?_;refine puT 4 28 X ?_;refine taT 7 31 X HW_ hHeld ?_;refine onT 5 (some 29) X (fun K hK=>?_);refine dQ Tryz.func111 (by kernel_rfl) rfl #[.slice Ao31 l0.length co31, .int .u64 (IntKind.u64.wrap ((U.size:Int)))] rfl rfl rfl (by(try simp only [List.map_toArray,List.map_cons,List.map_nil]);rfl) ?_
      with_reducible refine(bz.calls k (fun q=>some q=(.slice Ao31 l0.length co31:Value).ownBlock) (.slice Ao31 l0.length co31) l0 (IntKind.u64.wrap ((U.size:Int))) t201 w0 _ ?side1 ?side2 A26.out).mono ?_
      (case side1=>repeat(with_reducible exact J.out))
      (case side2=>exact Kd.R_tight rfl D.out)
      rintro e w32 ⟨v202,rfl,ho0,G,hkp⟩;refine⟨_,rfl,?_⟩;have n0_:=aa.mk (dM y.out hkp (fun Y=>(fun e_=>(Kd.R_ne D.out y.out (by decide)) e_) Y));have n1_:=aa.mk (Kd.R_mono (ok':=fun q=>(Z q∨w.heap.size≤q)) ho0 (fun q hk_=>Or.elim hk_ (fun Y=>(D.out.1 q (Y).symm)) (fun hn_=>(.inr (rK z.out.1 hn_)))));have n2_:=aa.mk (bV.then_ (S:=(fun q=>Z q)) z.out hkp (fun q Y=>(fun e_=>(D.out.1 q e_.symm)) Y));have n3_:=aa.mk (G);clear y z J D;have y:=n0_;have HO203:=n1_;have z:=n2_;have J:=n3_;clear n0_ n1_ n2_ n3_
      (try clear G)
      (try clear hkp)
      (try clear ho0)
      refine hK.out _ _ ⟨(ab y.out 0).trans rfl,(ab y.out 1).trans rfl,(ab y.out 2).trans rfl,(ab y.out 3).trans rfl⟩ (fun hHeld=>?_);clear hK K;refine nmS ?_;refine onT 8 (some 32) X (fun K hK=>?_);refine dJ (w0:=w0) w0.heap.size rfl (.tmp 29) _ 66 9 5 rfl Tryz.underlying66 Tryz.underlying9 b8 v202 t201 U (fun q=>(Z q∨w.heap.size≤q)) rfl rfl ?aF ?aO ?aB ?aS ?aL ?_
      (case aB=>exact J.out)
      (case aF=>exact(fun q hk=>(.inr (rK z.out.1 hk))))
      (case aO=>exact HO203.out)
      (case aS=>exact(ay J.out))
      (case aL=>have:=LMc27.out;omega)
      intro v205 w33 ho G hg hat;rw [←Ny204.out]at ho;have n0_:=aa.mk (bC y.out hg (Kd.R_ne HO203.out y.out (by decide)));have n1_:=aa.mk (G);have n2_:=aa.mk (bV.of_grown (S:=(fun q=>Z q)) hg z.out (fun q e_=>(HO203.out.1 q e_)));have n3_:=aa.mk (ho);clear y J z HO203;have y:=n0_;have J:=n1_;have z:=n2_;have HO206:=n3_;clear n0_ n1_ n2_ n3_ ho G hg hat;refine hK.out _ _ ⟨(ab y.out 0).trans rfl,(ab y.out 1).trans rfl,(ab y.out 2).trans rfl,(ab y.out 3).trans rfl⟩ (fun hHeld=>?_);clear hK K;refine nmS ?_;refine puT 9 4 X ?_;refine dp (di X.out (by kernel_rfl)) ?_;try go_wp2
      go_ret;exact⟨_,by rfl,by exact HO206.out,by exact J.out,by exact z.out⟩
     ·rw [rq c27]at H
      exact absurd H (by simp)
    ·rw [if_neg c25]at H
     have c25b0:(V==5)=false:=ry.mpr c25;obtain rfl:=rD H;go_enter Tryz.func83,Tryz.ntmps83;go_wp2_with (((with_reducible refine aM (N:=3) rfl ?_);refine aI ?hg (N:=3) ?hd (cs:= #[.int .i64 V, .int .i64 a1_1, .float .f64 a1_2, .string U]) (t:=84) ?hr ?_;(case hd=>rfl);(case hg=>rfl);(case hr=>(go_simp;done));intro gb187 hg w34 hbox G;replace D:=aa.mk (Kd.R_below D.out G);have y:=aa.mk hbox;replace z:=aa.mk (bV.below (S:=(fun q=>Z q)) z.out G);replace J:=bsO J G;clear G hbox hg;obtain⟨hcz35_0,hcz35_1,hcz35_2,hcz35_3,hfz35_0,hfz35_1,hfz35_2,hfz35_3⟩:=cz4 y));go_ret;exact⟨_,by rfl,by exact D.out,by exact J.out,by exact z.out⟩
mutual
def bf.l0:Nat→List (S84)→List Int→List (S84)→Int→Int→Option (List Int)
 |0,_,_,_,_,_=>none
 |k+1,z,q,r,D,x16=>if x16<D then(if 0≤x16 then(if x16<(r.length:Int)then(if 0≤(wrap64 (Int.tdiv x16 4))then(if(wrap64 (Int.tdiv x16 4))<(q.length:Int)then((ep.f ((af r x16).f0) ((af r x16).f1) ((af r x16).f2) ((af r x16).f3)).bind fun t213=>(if 0≤(wrap64 (2*(Int.tmod x16 4)))then(bf.l0 k z (q.set ((wrap64 (Int.tdiv x16 4)):Int).toNat (Go.bits .or .u8 (rd q (wrap64 (Int.tdiv x16 4))) (shl .u8 t213 (wrap64 (2*(Int.tmod x16 4)))))) r D (wrap64 (x16+1)))else(none)))else(none))else(none))else(none))else(none))else(bf.l1 k q z (z.length:Int) 0)
def bf.l1:Nat→List Int→List (S84)→Int→Int→Option (List Int)
 |0,_,_,_,_=>none
 |k+1,q,y,G,h=>if h<G then(if 0≤h then(if h<(y.length:Int)then((dh.f k q ((af y h).f0) ((af y h).f1) ((af y h).f2) ((af y h).f3)).bind fun t217=>(bf.l1 k t217 y G (wrap64 (h+1))))else(none))else(none))else(some q)
end
def bf.f(k:Nat)(l0:List (S84)):Option (List Int):=if 0≤(wrap64 (Int.tdiv (wrap64 ((wrap64 (2*(l0.length:Int)))+7)) 8))then(if(wrap64 (Int.tdiv (wrap64 ((wrap64 (2*(l0.length:Int)))+7)) 8):Int).toNat≤281474976710656 then(bf.l0 k l0 (List.replicate (wrap64 (Int.tdiv (wrap64 ((wrap64 (2*(l0.length:Int)))+7)) 8):Int).toNat 0) l0 (l0.length:Int) 0)else(none))else(none)
def bf.T5:Bool×List (List Nat×List Nat):=(true,[([],[]),([],[]),([1],[1]),([0,2],[0,2]),([3],[3]),([],[]),([5],[5]),([],[]),([7],[7]),([8],[8]),([6,9],[6,9]),([4,10],[4,10]),([0,2,0,1,2,3,4,5,6,7,8,9,10,11],[0,2]),([12,11,6,0,1,2,3,4,5,6,7,8,9,10,11],[11,12])])
def bf.B5:List Nat:=[0,0,2,7,15,0,32,0,128,384,992,2047,4095,8191]
theorem bf.tab5:dK .any (fa Tryz.f57 5)=bf.T5:=by kernel_rfl
theorem bf.bits5:dq bf.T5.2 bf.B5=true:=by kernel_rfl
set_option maxHeartbeats 8000000 in
set_option maxRecDepth 100000 in
theorem bf.calls(k:Nat)(A0:Option Addr)(c0:Nat)(l0:List (S84))(r:List Int)(w:World)(hr0:Kd.C k84 w A0 l0.length l0)(hc0:l0.length≤c0)(h:bf.f k l0=some r):
 Calls Tryz.prog 57 #[.slice A0 l0.length c0] w fun e w'=>∃v0_:Value,e= .returned (v0_)∧Kd.R (Kd.int .u8) 5 w' w.heap.size (fun _=>True) v0_ r∧Below w.heap.size w w':=by
 have HR0:=aa.mk hr0;clear hr0 hc0;have y:=aa.mk (rr w.heap.size w);have H:(if 0≤(wrap64 (Int.tdiv (wrap64 ((wrap64 (2*(l0.length:Int)))+7)) 8))then(if(wrap64 (Int.tdiv (wrap64 ((wrap64 (2*(l0.length:Int)))+7)) 8):Int).toNat≤281474976710656 then(bf.l0 k l0 (List.replicate (wrap64 (Int.tdiv (wrap64 ((wrap64 (2*(l0.length:Int)))+7)) 8):Int).toNat 0) l0 (l0.length:Int) 0)else(none))else(none))=some r:=h;clear h;obtain⟨ji2,hji2⟩:∃j_:Int,(wrap64 (Int.tdiv (wrap64 ((wrap64 (2*(l0.length:Int)))+7)) 8))=j_:=⟨_,rfl⟩;replace H:(if 0≤(ji2)then(if(ji2:Int).toNat≤281474976710656 then(bf.l0 k l0 (List.replicate (ji2:Int).toNat 0) l0 (l0.length:Int) 0)else(none))else(none))=some r:=by(rw [hji2]at H;exact H)
 have hji2w:(IntKind.i64.wrap (Int.tdiv (wrap64 ((wrap64 (2*(l0.length:Int)))+7)) 8))=ji2:=(dI _).trans hji2;by_cases c3:0≤(ji2)
 ·rw [rp c3]at H
  have c3b1:decide (0≤(ji2))=true:=ru c3;clear c3;by_cases c4:(ji2:Int).toNat≤281474976710656
  ·rw [rp c4]at H
   have c4b1:decide ((ji2:Int).toNat≤281474976710656)=true:=ru c4;clear c4;obtain⟨y207,hy207⟩:∃y_:List Int,y_=(List.replicate (ji2:Int).toNat 0):=⟨_,rfl⟩;replace H:(bf.l0 k l0 y207 l0 (l0.length:Int) 0)=some r:=by(rw [hy207];with_reducible exact H)
   have Ny207:=aa.mk hy207;clear hy207;have H':=aa.mk H;clear H;go_enter Tryz.func57,Tryz.ntmps57;go_wp2_with (((with_reducible refine aM (N:=13) rfl ?_);refine Kd.R_make (Kd.int .u8) _ 5 rfl (N:=13) rfl 66 _ _ rfl ji2 rfl rfl Tryz.underlying66 (.int .u8 0) 1 b8 rfl (by decide) (by omega) 0 (ok:=fun _=>True) (okp:=fun _=>True) rfl (fun _ Y=>Y) trivial (dA) (rK (sc _ (dA:ji2.toNat≤281474976710656)) (by omega)) (rr _ _) (rA _) ?_;intro v208 w5 ho6 X hg_ hnew_;clear hg_ hnew_;(rw [←Ny207.out]at ho6);have HO209:=aa.mk (Kd.R_lower ho6 (ay y.out));replace y:=bsO y X;clear X ho6))
   go_loopg [16] k (fun kq v16 w'=>∃(U:List Int) (q:Int),v16= .int .i64 q∧aa (bf.l0 kq l0 U l0 (l0.length:Int) q=some r)∧aa (kq≤k)∧aa (Kd.R (Kd.int .u8) 5 w' w.heap.size (fun _=>True) v208 U)∧aa (Below w.heap.size w w'))
   case atStart=>exact⟨(y207),(0),rfl,H',⟨rA _⟩,⟨HO209.out⟩,⟨y.out⟩⟩
   case round=>
    clear H';clear c3b1 c4b1;obtain⟨U,q,rfl,HA,HK1,D,y⟩:=hrel;cases gk with
    |zero=>exact absurd HA.out (by simp [bf.l0])
    |succ k1=>
     have H:=HA.out;clear HA;simp only [bf.l0]at H;by_cases c7:q<(l0.length:Int)
     ·rw [rp c7]at H
      have c7b0:decide (q<(l0.length:Int))=true:=ru c7;clear c7;by_cases c8:0≤q
      ·rw [rp c8]at H
       have c8b0:decide (0≤q)=true:=ru c8;clear c8;by_cases c9:q<(l0.length:Int)
       ·rw [rp c9]at H
        have c9b0:decide (q<(l0.length:Int))=true:=ru c9;clear c9;obtain⟨G,hji10⟩:∃j_:Int,(wrap64 (Int.tdiv q 4))=j_:=⟨_,rfl⟩;replace H:(if 0≤(G)then(if(G)<(U.length:Int)then((ep.f ((af l0 q).f0) ((af l0 q).f1) ((af l0 q).f2) ((af l0 q).f3)).bind fun t213=>(if 0≤(wrap64 (2*(Int.tmod q 4)))then(bf.l0 k1 l0 (U.set ((G):Int).toNat (Go.bits .or .u8 (rd U (G)) (shl .u8 t213 (wrap64 (2*(Int.tmod q 4)))))) l0 (l0.length:Int) (wrap64 (q+1)))else(none)))else(none))else(none))=some r:=by(rw [hji10]at H;exact H)
        have hji10w:(IntKind.i64.wrap (Int.tdiv q 4))=G:=(dI _).trans hji10;by_cases c11:0≤(G)
        ·rw [rp c11]at H
         have c11b0:decide (0≤(G))=true:=ru c11;clear c11;by_cases c12:(G)<(U.length:Int)
         ·rw [rp c12]at H
          have c12b0:decide ((G)<(U.length:Int))=true:=ru c12;clear c12;replace H:=rB.mp H;obtain⟨t213,A130,H⟩:=H;replace H:(if 0≤(wrap64 (2*(Int.tmod q 4)))then(bf.l0 k1 l0 (U.set ((G):Int).toNat (Go.bits .or .u8 (rd U (G)) (shl .u8 t213 (wrap64 (2*(Int.tmod q 4)))))) l0 (l0.length:Int) (wrap64 (q+1)))else(none))=some r:=H;have A13:=aa.mk A130;clear A130;obtain⟨ji14,hji14⟩:∃j_:Int,(wrap64 (2*(Int.tmod q 4)))=j_:=⟨_,rfl⟩;replace H:(if 0≤(ji14)then(bf.l0 k1 l0 (U.set ((G):Int).toNat (Go.bits .or .u8 (rd U (G)) (shl .u8 t213 (ji14)))) l0 (l0.length:Int) (wrap64 (q+1)))else(none))=some r:=by(rw [hji14]at H;exact H)
          have hji14w:(IntKind.i64.wrap (2*(Int.tmod q 4)))=ji14:=(dI _).trans hji14;by_cases c15:0≤(ji14)
          ·rw [rp c15]at H
           have c15b0:=rF c15;clear c15;obtain⟨ji16,hji16⟩:∃j_:Int,(shl .u8 t213 (ji14))=j_:=⟨_,rfl⟩;replace H:(bf.l0 k1 l0 (U.set ((G):Int).toNat (Go.bits .or .u8 (rd U (G)) (ji16))) l0 (l0.length:Int) (wrap64 (q+1)))=some r:=by(rw [hji16]at H;exact H)
           have hji16_:(IntKind.u8.wrap (t213*2^min (ji14).toNat 8))=ji16:=hji16;obtain⟨y214,hy214⟩:∃y_:List Int,y_=(U.set ((G):Int).toNat (Go.bits .or .u8 (rd U (G)) (ji16))):=⟨_,rfl⟩;replace H:(bf.l0 k1 l0 y214 l0 (l0.length:Int) (wrap64 (q+1)))=some r:=by(rw [hy214];with_reducible exact H)
           have Ny214:=aa.mk hy214;clear hy214;have H':=aa.mk H;clear H;have p210:0≤(q:Int):=dA;have q210:q<(l0.length:Int):=dA;obtain⟨ad210,e210,hx210_0,hx210_1,hx210_2,hx210_3⟩:=dn HR0.out q p210 q210;cases e210;replace hx210_0:=mvO y hx210_0;replace hx210_1:=mvO y hx210_1;replace hx210_2:=mvO y hx210_2;replace hx210_3:=mvO y hx210_3;replace p210:=rF p210;replace q210:=rF q210;try go_wp2_with (((with_reducible refine aM (N:=5) rfl ?_);refine aI ?hg (N:=5) ?hd (cs:= #[.int .i64 0, .int .i64 0, .float .f64 0, .string (⟨#[]⟩:ByteArray)]) (t:=84) ?hr ?_;(case hd=>rfl);(case hg=>rfl);(case hr=>(go_simp;done));intro J hg w18 hbox X;replace D:=aa.mk (Kd.R_below D.out X);have V:=aa.mk hbox;have GE211:=gwO hg y;replace y:=bsO y X;clear X hbox hg;obtain⟨hcz19_0,hcz19_1,hcz19_2,hcz19_3,hfz19_0,hfz19_1,hfz19_2,hfz19_3⟩:=cz4 V))
           have n0_:aa (Kd.R (Kd.int .u8) 5 ((((w18.setCell ⟨J,0,none⟩ (.int .i64 ((af l0 q).f0))).setCell ⟨J,1,none⟩ (.int .i64 ((af l0 q).f1))).setCell ⟨J,2,none⟩ (.float .f64 ((af l0 q).f2))).setCell ⟨J,3,none⟩ (.string ((af l0 q).f3))) w.heap.size (fun _=>True) v208 U):=⟨by exact Kd.R_mono (Kd.R_far (p:=⟨J,3,none⟩) (Kd.R_far (p:=⟨J,2,none⟩) (Kd.R_far (p:=⟨J,1,none⟩) (Kd.R_far (p:=⟨J,0,none⟩) (Kd.R_types D.out V.out (by decide)) (fun _ Y=>Y.2) (.int .i64 ((af l0 q).f0))) (fun _ Y=>Y.2) (.int .i64 ((af l0 q).f1))) (fun _ Y=>Y.2) (.float .f64 ((af l0 q).f2))) (fun _ Y=>Y.2) (.string ((af l0 q).f3))) (fun _ Y=>trivial)⟩;have n1_:aa (((((w18.setCell ⟨J,0,none⟩ (.int .i64 ((af l0 q).f0))).setCell ⟨J,1,none⟩ (.int .i64 ((af l0 q).f1))).setCell ⟨J,2,none⟩ (.float .f64 ((af l0 q).f2))).setCell ⟨J,3,none⟩ (.string ((af l0 q).f3))).heap[J]? =some (.cells #[.int .i64 ((af l0 q).f0), .int .i64 ((af l0 q).f1), .float .f64 ((af l0 q).f2), .string ((af l0 q).f3)] 84 (0,0))):=⟨by refine al (cs:= #[.int .i64 ((af l0 q).f0), .int .i64 ((af l0 q).f1), .float .f64 ((af l0 q).f2), .string (⟨#[]⟩:ByteArray)]) ?_ 3 _ rfl;refine al (cs:= #[.int .i64 ((af l0 q).f0), .int .i64 ((af l0 q).f1), .float .f64 0, .string (⟨#[]⟩:ByteArray)]) ?_ 2 _ rfl;refine al (cs:= #[.int .i64 ((af l0 q).f0), .int .i64 0, .float .f64 0, .string (⟨#[]⟩:ByteArray)]) ?_ 1 _ rfl;refine al (cs:= #[.int .i64 0, .int .i64 0, .float .f64 0, .string (⟨#[]⟩:ByteArray)]) ?_ 0 _ rfl;exact V.out⟩;have n2_:aa (Below w.heap.size w ((((w18.setCell ⟨J,0,none⟩ (.int .i64 ((af l0 q).f0))).setCell ⟨J,1,none⟩ (.int .i64 ((af l0 q).f1))).setCell ⟨J,2,none⟩ (.float .f64 ((af l0 q).f2))).setCell ⟨J,3,none⟩ (.string ((af l0 q).f3)))):=⟨by repeat((with_reducible first|exact y.out|refine ao ?_ GE211.out))⟩
           (try clear D)
           (try clear V)
           (try clear y)
           generalize((((w18.setCell ⟨J,0,none⟩ (.int .i64 ((af l0 q).f0))).setCell ⟨J,1,none⟩ (.int .i64 ((af l0 q).f1))).setCell ⟨J,2,none⟩ (.float .f64 ((af l0 q).f2))).setCell ⟨J,3,none⟩ (.string ((af l0 q).f3)))=w20 at n0_ n1_ n2_⊢;have D:=n0_;have V:=n1_;have y:=n2_;clear n0_ n1_ n2_;have n0_:=aa.mk (Kd.R_drew D.out);have n1_:=aa.mk (aN V.out);have n2_:=aa.mk (aJ y.out);clear D V y;have D:=n0_;have V:=n1_;have y:=n2_;clear n0_ n1_ n2_;obtain⟨Ao22,co22,eo22⟩:=Kd.R_slice D.out
           (subst eo22)
           have p212:0≤((G):Int):=dA;have q212:(G)<(U.length:Int):=dA;obtain⟨ad212,e212,hx212_0⟩:=Kd.at_int (Kd.R_reads' D.out).2.2 (G) p212 q212;cases e212;replace p212:=rF p212;replace q212:=rF q212;refine cH (n:=14) (S:=fun w'=>w'.cell? ⟨J,0,none⟩=some (.int .i64 ((af l0 q).f0))∧w'.cell? ⟨J,1,none⟩=some (.int .i64 ((af l0 q).f1))∧w'.cell? ⟨J,2,none⟩=some (.float .f64 ((af l0 q).f2))∧w'.cell? ⟨J,3,none⟩=some (.string ((af l0 q).f3))∧w'.cell? (ad212.add ((G)).toNat)=some (.int .u8 (rd U (G)))) (ds:=[13]) #[false,false,false,false,false,false,false,false,false,false,false,false,false,false] (by kernel_rfl) rfl rfl ⟨(ab V.out 0).trans rfl,(ab V.out 1).trans rfl,(ab V.out 2).trans rfl,(ab V.out 3).trans rfl,hx212_0⟩ (fun hHeld=>?_);refine cw bf.tab5 bf.bits5 (fun Z HW_=>?_);generalize w20.drew=w21 at D V y hx212_0 hHeld⊢;refine puT 0 21 Z ?_;refine puT 1 22 Z ?_;refine puT 2 23 Z ?_;refine puT 3 24 Z ?_;refine puT 7 28 Z ?_;refine puT 8 29 Z ?_;refine puT 9 30 Z ?_;refine taT 4 25 Z HW_ hHeld ?_;refine taT 5 26 Z HW_ hHeld ?_;refine onT 6 (some 27) Z (fun K hK=>?_);refine dQ Tryz.func82 (by kernel_rfl) rfl #[.agg #[.int .i64 ((af l0 q).f0), .int .i64 ((af l0 q).f1), .float .f64 ((af l0 q).f2), .string ((af l0 q).f3)]] rfl rfl rfl (by(try simp only [List.map_toArray,List.map_cons,List.map_nil]);rfl) ?_
           with_reducible refine(ep.calls ((af l0 q).f0) ((af l0 q).f1) ((af l0 q).f2) ((af l0 q).f3) t213 _ A13.out).mono ?_
           rintro e w23 ⟨rfl,X⟩;have HS4_:=(X.cell (rE _ _ (hHeld.2.2.2.2))).trans (hHeld.2.2.2.2);refine⟨_,rfl,?_⟩;have n0_:=aa.mk (Kd.R_below D.out X);have n1_:=bbO V X;have n2_:=bsO y X;clear D V y;have D:=n0_;have V:=n1_;have y:=n2_;clear n0_ n1_ n2_
           (try clear X)
           have p17:0≤((G):Int):=dA;have q17:((G):Int)<((U.length:Int):Int):=dA;obtain⟨go17,co17,eo17,gb17,gl17,cl17,HG17⟩:=Kd.R_form D.out (by omega)
           (cases eo17)
           have GB17:=aa.mk gb17;clear gb17 gl17 HG17
           (simp only [add_plain]at hx212_0)
           obtain⟨hx17_0,hf17_0⟩:=Kd.R_celln 0 D.out ((G):Int) p17 q17;replace p17:=rF p17;replace q17:=rF q17;have HP24:=Kd.R_putn D.out ((G):Int) (Go.bits .or .u8 (rd U (G)) (ji16));rw [←Ny214.out]at HP24;have HQ24:=aa.mk HP24;clear HP24;refine hK.out _ _ ⟨(ab V.out 0).trans rfl,(ab V.out 1).trans rfl,(ab V.out 2).trans rfl,(ab V.out 3).trans rfl,HS4_⟩ (fun hHeld=>?_);clear hK K;refine nmS ?_;refine puT 10 31 Z ?_;refine puT 11 32 Z ?_;refine puT 12 33 Z ?_;refine jN (i:=13) (N:=none) #[true,true,true,true,true,true,true,true,true,true,true,true,true,true] rfl rfl (gl Z.out (by kernel_rfl)) (by decide) (fun K hK=>?_);refine eZ (w1:=?_) rfl rfl ?_ ?_;rotate_left
           ·go_simp
            rfl
           refine hK.out _ _ ?_;clear hK K;refine dp (di Z.out (by kernel_rfl)) ?_;try go_wp2
           go_roundg k1
           case measure=>have:=HK1.out;omega
           case rel=>exact⟨(y214),(wrap64 (q+1)),rfl,H',⟨by have:=HK1.out;omega⟩,⟨HQ24.out⟩,⟨by repeat((with_reducible first|exact y.out|refine ao ?_ GB17.out))⟩⟩
          ·rw [rq c15]at H
           exact absurd H (by simp)
         ·rw [if_neg c12]at H
          exact absurd H (by simp)
        ·rw [if_neg c11]at H
         exact absurd H (by simp)
       ·rw [if_neg c9]at H
        exact absurd H (by simp)
      ·rw [if_neg c8]at H
       exact absurd H (by simp)
     ·rw [if_neg c7]at H
      have c7b0:decide (q<(l0.length:Int))=false:=rC c7;clear c7;have H':=aa.mk H;clear H;go_wp2
      go_loopg [3,37] k1 (fun kq v3 v37 w'=>∃(x3_2:List Int) (z:Int),v37= .int .i64 z∧aa (bf.l1 kq x3_2 l0 (l0.length:Int) z=some r)∧aa (kq≤k1)∧aa (Kd.R (Kd.int .u8) 5 w' w.heap.size (fun _=>True) v3 x3_2)∧aa (Below w.heap.size w w'))
      case atStart=>exact⟨(U),(0),rfl,H',⟨rA _⟩,⟨D.out⟩,⟨y.out⟩⟩
      case round=>
       clear H';clear c7b0;obtain⟨x3_2,z,rfl,HA,HK2,D,y⟩:=hrel;cases gk with
       |zero=>exact absurd HA.out (by simp [bf.l1])
       |succ k2=>
        have H:=HA.out;clear HA;simp only [bf.l1]at H;by_cases c25:z<(l0.length:Int)
        ·rw [rp c25]at H
         have c25b0:decide (z<(l0.length:Int))=true:=ru c25;clear c25;by_cases c26:0≤z
         ·rw [rp c26]at H
          have c26b0:decide (0≤z)=true:=ru c26;clear c26;by_cases c27:z<(l0.length:Int)
          ·rw [rp c27]at H
           have c27b0:decide (z<(l0.length:Int))=true:=ru c27;clear c27;replace H:=rB.mp H;obtain⟨t217,A280,H⟩:=H;replace H:(bf.l1 k2 t217 l0 (l0.length:Int) (wrap64 (z+1)))=some r:=H;have A28:=aa.mk A280;clear A280;have H':=aa.mk H;clear H;have p215:0≤(z:Int):=dA;have q215:z<(l0.length:Int):=dA;obtain⟨ad215,e215,hx215_0,hx215_1,hx215_2,hx215_3⟩:=dn HR0.out z p215 q215;cases e215;replace hx215_0:=mvO y hx215_0;replace hx215_1:=mvO y hx215_1;replace hx215_2:=mvO y hx215_2;replace hx215_3:=mvO y hx215_3;replace p215:=rF p215;replace q215:=rF q215;go_wp2_with (first|((with_reducible refine aM (N:=7) rfl ?_);refine aI ?hg (N:=7) ?hd (cs:= #[.int .i64 0, .int .i64 0, .float .f64 0, .string (⟨#[]⟩:ByteArray)]) (t:=84) ?hr ?_;(case hd=>rfl);(case hg=>rfl);(case hr=>(go_simp;done));intro gb216 hg w29 hbox X;replace D:=aa.mk (Kd.R_below D.out X);have BK216:=aa.mk hbox;have GE216:=gwO hg y;replace y:=bsO y X;clear X hbox hg;obtain⟨hcz30_0,hcz30_1,hcz30_2,hcz30_3,hfz30_0,hfz30_1,hfz30_2,hfz30_3⟩:=cz4 BK216)|((with_reducible refine eX (t:=84) (p:=7) rfl ?_);refine eE (t:=84) (p:=7) (v:=?vo_w31) (w1:=((((w29.setCell ⟨gb216,0,none⟩ (.int .i64 ((af l0 z).f0))).setCell ⟨gb216,1,none⟩ (.int .i64 ((af l0 z).f1))).setCell ⟨gb216,2,none⟩ (.float .f64 ((af l0 z).f2))).setCell ⟨gb216,3,none⟩ (.string ((af l0 z).f3)))) ?hg ?ho ?hn ?hr ?_;(case ho=>rfl);(case hg=>rfl);(case hn=>rfl);(case hr=>(go_simp;done));intro w31 hw;have n0_:aa (Kd.R (Kd.int .u8) 5 w31 w.heap.size (fun _=>True) u3 x3_2):=⟨(by rw [hw];exact(by exact Kd.R_mono (Kd.R_far (p:=⟨gb216,3,none⟩) (Kd.R_far (p:=⟨gb216,2,none⟩) (Kd.R_far (p:=⟨gb216,1,none⟩) (Kd.R_far (p:=⟨gb216,0,none⟩) (Kd.R_types D.out BK216.out (by decide)) (fun _ Y=>Y.2) (.int .i64 ((af l0 z).f0))) (fun _ Y=>Y.2) (.int .i64 ((af l0 z).f1))) (fun _ Y=>Y.2) (.float .f64 ((af l0 z).f2))) (fun _ Y=>Y.2) (.string ((af l0 z).f3))) (fun _ Y=>trivial)))⟩;have n1_:aa (w31.heap[gb216]? =some (.cells #[.int .i64 ((af l0 z).f0), .int .i64 ((af l0 z).f1), .float .f64 ((af l0 z).f2), .string ((af l0 z).f3)] 84 (0,0))):=⟨(by rw [hw];exact(by refine al (cs:= #[.int .i64 ((af l0 z).f0), .int .i64 ((af l0 z).f1), .float .f64 ((af l0 z).f2), .string (⟨#[]⟩:ByteArray)]) ?_ 3 _ rfl;refine al (cs:= #[.int .i64 ((af l0 z).f0), .int .i64 ((af l0 z).f1), .float .f64 0, .string (⟨#[]⟩:ByteArray)]) ?_ 2 _ rfl;refine al (cs:= #[.int .i64 ((af l0 z).f0), .int .i64 0, .float .f64 0, .string (⟨#[]⟩:ByteArray)]) ?_ 1 _ rfl;refine al (cs:= #[.int .i64 0, .int .i64 0, .float .f64 0, .string (⟨#[]⟩:ByteArray)]) ?_ 0 _ rfl;exact BK216.out))⟩;have n2_:aa (Below w.heap.size w w31):=⟨(by rw [hw];exact(by repeat((with_reducible first|exact y.out|refine ao ?_ GE216.out))))⟩;clear hw;clear D;clear BK216;clear y;have D:=n0_;have BK216:=n1_;have y:=n2_;clear n0_ n1_ n2_;obtain⟨hcz32_0,hcz32_1,hcz32_2,hcz32_3,hfz32_0,hfz32_1,hfz32_2,hfz32_3⟩:=cz4 BK216;obtain⟨Ao33,co33,eo33⟩:=Kd.R_slice D.out;subst eo33)|(go_at_call 83;(with_reducible refine(dh.calls k2 (fun k_=>some k_=(.slice Ao33 x3_2.length co33:Value).ownBlock) (.slice Ao33 x3_2.length co33) x3_2 ((af l0 z).f0) ((af l0 z).f1) ((af l0 z).f2) ((af l0 z).f3) t217 w _ ?side1 ?side2 A28.out).mono ?_);(case side1=>repeat(with_reducible exact y.out));(case side2=>exact Kd.R_tight rfl D.out);rintro e w34 ⟨v218,rfl,ho0,X,hkp⟩;replace BK216:=aa.mk (dM BK216.out hkp (fun hs_=>(fun e_=>(Kd.R_ne D.out BK216.out (by decide)) e_) hs_));have HO219:=aa.mk (Kd.R_mono (ok':=fun k_=>True) ho0 (fun k_ hk_=>trivial));replace y:=aa.mk (X);clear D;(try clear X);(try clear hkp);(try clear ho0)))
           go_roundg k2
           case measure=>have:=HK1.out;have:=HK2.out;omega
           case rel=>exact⟨(t217),(wrap64 (z+1)),rfl,H',⟨by have:=HK1.out;have:=HK2.out;omega⟩,⟨HO219.out⟩,⟨y.out⟩⟩
          ·rw [rq c27]at H
           exact absurd H (by simp)
         ·rw [if_neg c26]at H
          exact absurd H (by simp)
        ·rw [if_neg c25]at H
         have c25b0:decide (z<(l0.length:Int))=false:=rC c25;clear c25;obtain rfl:=rD H;go_wp2;go_ret;exact⟨_,by rfl,by exact D.out,by exact y.out⟩
  ·rw [rq c4]at H
   exact absurd H (by simp)
 ·rw [if_neg c3]at H
  exact absurd H (by simp)
def cQ.f(k:Nat)(h:ByteArray)(q:List (S86))(r:List Int)(y:List (S88))(z:List (S90))(l1:List (S84)):Option (ByteArray×Int):=(bY.f h q r y z l1).bind fun t221=>(if t221=0 then((bf.f k l1).bind fun t222=>(if(t222.length:Int)>65536 then(some ((⟨#[]⟩:ByteArray),3))else(some (strOfNums t222,0))))else(some ((⟨#[]⟩:ByteArray),t221)))
set_option maxHeartbeats 8000000 in
set_option maxRecDepth 100000 in
theorem cQ.calls(k:Nat)(U:ByteArray)(X:Option Addr)(a1:Nat)(z:List (S86))(Y:Option Addr)(a2:Nat)(D:List Int)(Z:Option Addr)(a6:Nat)(G:List (S88))(am:Option Addr)(be:Nat)(J:List (S90))(A1:Option Addr)(c1:Nat)(l1:List (S84))(r1:ByteArray)(r2:Int)(w:World)(hr0_1:Kd.C k86 w X z.length z)(hc0_1:z.length≤a1)(hr0_2:Kd.C (Kd.int .i64) w Y D.length D)(hc0_2:D.length≤a2)(hr0_3:Kd.C k88 w Z G.length G)(hc0_3:G.length≤a6)(hr0_4:Kd.C k90 w am J.length J)(hc0_4:J.length≤be)(hr1:Kd.C k84 w A1 l1.length l1)(hc1:l1.length≤c1)(hG:GT w)(h:cQ.f k U z D G J l1=some (r1,r2)):
 Calls Tryz.prog 32 #[.agg #[.string U, .slice X z.length a1, .slice Y D.length a2, .slice Z G.length a6, .slice am J.length be], .slice A1 l1.length c1] w fun e w'=>e= .returned (.tuple #[.string r1, .int .i64 r2])∧Below w.heap.size w w':=by
 have b2:=aa.mk hr0_1;have bs:=aa.mk hc0_1;clear hr0_1 hc0_1;have b3:=aa.mk hr0_2;have bt:=aa.mk hc0_2;clear hr0_2 hc0_2;have b4:=aa.mk hr0_3;have bv:=aa.mk hc0_3;clear hr0_3 hc0_3;have b5:=aa.mk hr0_4;have b0:=aa.mk hc0_4;clear hr0_4 hc0_4;have av:=aa.mk hr1;have ap:=aa.mk hc1;clear hr1 hc1;have q:=aa.mk (rr w.heap.size w);have b1:=aa.mk hG;clear hG;have H:((bY.f U z D G J l1).bind fun t221=>(if t221=0 then((bf.f k l1).bind fun t222=>(if(t222.length:Int)>65536 then(some ((⟨#[]⟩:ByteArray),3))else(some (strOfNums t222,0))))else(some ((⟨#[]⟩:ByteArray),t221))))=some (r1,r2):=h;clear h;replace H:=rB.mp H;obtain⟨t221,cc,H⟩:=H;replace H:(if t221=0 then((bf.f k l1).bind fun t222=>(if(t222.length:Int)>65536 then(some ((⟨#[]⟩:ByteArray),3))else(some (strOfNums t222,0))))else(some ((⟨#[]⟩:ByteArray),t221)))=some (r1,r2):=H;have A3:=aa.mk cc;clear cc;by_cases c4:t221=0
 ·rw [rp c4]at H
  have c4b1:(t221 !=0)=false:=rV.mpr c4;clear c4;replace H:=rB.mp H;obtain⟨t222,A50,H⟩:=H;replace H:(if(t222.length:Int)>65536 then(some ((⟨#[]⟩:ByteArray),3))else(some (strOfNums t222,0)))=some (r1,r2):=H;have A5:=aa.mk A50;clear A50;by_cases c6:(t222.length:Int)>65536
  ·rw [rp c6]at H
   have c6b0:decide (65536<(t222.length:Int))=true:=ru c6;clear c6;simp only [Option.some.injEq,Prod.mk.injEq]at H;obtain⟨rfl,rfl⟩:=H;go_enter Tryz.func32,Tryz.ntmps32;go_wp2_with (first|((with_reducible refine aM (N:=2) rfl ?_);refine aI ?hg (N:=2) ?hd (cs:= #[.string U, .slice X z.length a1, .slice Y D.length a2, .slice Z G.length a6, .slice am J.length be]) (t:=48) ?hr ?_;(case hd=>rfl);(case hg=>rfl);(case hr=>(go_simp;done));intro gb220 hg w7 V r;have y:=aa.mk V;replace q:=bsO q r;clear r V hg;obtain⟨hcz8_0,hcz8_1,hcz8_2,hcz8_3,hcz8_4,hfz8_0,hfz8_1,hfz8_2,hfz8_3,hfz8_4⟩:=cz5 y)|(go_at_call 56;(with_reducible refine(bY.calls U _ _ z _ _ D _ _ G _ _ J _ _ l1 t221 _ ?side1 ?side2 ?side3 ?side4 ?side5 ?side6 ?side7 ?side8 ?side9 ?side10 ?side11 A3.out).mono ?_);(case side1=>repeat(exact(Kd.C_below b2.out q.out)));(case side2=>exact bs.out);(case side3=>repeat(exact(Kd.C_below b3.out q.out)));(case side4=>exact bt.out);(case side5=>repeat(exact(Kd.C_below b4.out q.out)));(case side6=>exact bv.out);(case side7=>repeat(exact(Kd.C_below b5.out q.out)));(case side8=>exact b0.out);(case side9=>repeat(exact(Kd.C_below av.out q.out)));(case side10=>exact ap.out);(case side11=>exact GT.now b1.out q.out);rintro e w9 ⟨rfl,r⟩;replace y:=bbO y r;replace q:=bsO q r;(try clear r))|(go_at_call 57;(with_reducible refine(bf.calls k _ _ l1 t222 _ ?side1 ?side2 A5.out).mono ?_);(case side1=>repeat(exact(Kd.C_below av.out q.out)));(case side2=>exact ap.out);rintro e w10 ⟨v223,rfl,bi,r⟩;have bl:=aa.mk (Kd.R_lower bi (ay q.out));replace y:=bbO y r;replace q:=bsO q r;(try clear r);(try clear bi);obtain⟨Ao11,co11,eo11⟩:=Kd.R_slice bl.out;subst eo11))
   go_ret2
   exact⟨by rfl,by exact q.out⟩
  ·rw [rq c6]at H
   have c6b0:decide (65536<(t222.length:Int))=false:=rC c6;clear c6;simp only [Option.some.injEq,Prod.mk.injEq]at H;obtain⟨rfl,rfl⟩:=H;go_enter Tryz.func32,Tryz.ntmps32;go_wp2_with (first|((with_reducible refine aM (N:=2) rfl ?_);refine aI ?hg (N:=2) ?hd (cs:= #[.string U, .slice X z.length a1, .slice Y D.length a2, .slice Z G.length a6, .slice am J.length be]) (t:=48) ?hr ?_;(case hd=>rfl);(case hg=>rfl);(case hr=>(go_simp;done));intro gb220 hg w12 V r;have y:=aa.mk V;replace q:=bsO q r;clear r V hg;obtain⟨hcz13_0,hcz13_1,hcz13_2,hcz13_3,hcz13_4,hfz13_0,hfz13_1,hfz13_2,hfz13_3,hfz13_4⟩:=cz5 y)|(go_at_call 56;(with_reducible refine(bY.calls U _ _ z _ _ D _ _ G _ _ J _ _ l1 t221 _ ?side1 ?side2 ?side3 ?side4 ?side5 ?side6 ?side7 ?side8 ?side9 ?side10 ?side11 A3.out).mono ?_);(case side1=>repeat(exact(Kd.C_below b2.out q.out)));(case side2=>exact bs.out);(case side3=>repeat(exact(Kd.C_below b3.out q.out)));(case side4=>exact bt.out);(case side5=>repeat(exact(Kd.C_below b4.out q.out)));(case side6=>exact bv.out);(case side7=>repeat(exact(Kd.C_below b5.out q.out)));(case side8=>exact b0.out);(case side9=>repeat(exact(Kd.C_below av.out q.out)));(case side10=>exact ap.out);(case side11=>exact GT.now b1.out q.out);rintro e w14 ⟨rfl,r⟩;replace y:=bbO y r;replace q:=bsO q r;(try clear r))|(go_at_call 57;(with_reducible refine(bf.calls k _ _ l1 t222 _ ?side1 ?side2 A5.out).mono ?_);(case side1=>repeat(exact(Kd.C_below av.out q.out)));(case side2=>exact ap.out);rintro e w15 ⟨v223,rfl,bi,r⟩;have bl:=aa.mk (Kd.R_lower bi (ay q.out));replace y:=bbO y r;replace q:=bsO q r;(try clear r);(try clear bi);obtain⟨Ao16,co16,eo16⟩:=Kd.R_slice bl.out;subst eo16;have hcv17:=dk (P:=Tryz.prog) Tryz.underlying66 Tryz.underlying5 Tryz.underlying9 (Kd.own_of_R bl.out)))
   go_ret2
   exact⟨by rfl,by exact q.out⟩
 ·rw [rq c4]at H
  have c4b1:(t221 !=0)=true:=rH.mpr c4;simp only [Option.some.injEq,Prod.mk.injEq]at H;obtain⟨rfl,rfl⟩:=H;go_enter Tryz.func32,Tryz.ntmps32;go_wp2_with (first|((with_reducible refine aM (N:=2) rfl ?_);refine aI ?hg (N:=2) ?hd (cs:= #[.string U, .slice X z.length a1, .slice Y D.length a2, .slice Z G.length a6, .slice am J.length be]) (t:=48) ?hr ?_;(case hd=>rfl);(case hg=>rfl);(case hr=>(go_simp;done));intro gb220 hg w18 V r;have y:=aa.mk V;replace q:=bsO q r;clear r V hg;obtain⟨hcz19_0,hcz19_1,hcz19_2,hcz19_3,hcz19_4,hfz19_0,hfz19_1,hfz19_2,hfz19_3,hfz19_4⟩:=cz5 y)|(go_at_call 56;(with_reducible refine(bY.calls U _ _ z _ _ D _ _ G _ _ J _ _ l1 t221 _ ?side1 ?side2 ?side3 ?side4 ?side5 ?side6 ?side7 ?side8 ?side9 ?side10 ?side11 A3.out).mono ?_);(case side1=>repeat(exact(Kd.C_below b2.out q.out)));(case side2=>exact bs.out);(case side3=>repeat(exact(Kd.C_below b3.out q.out)));(case side4=>exact bt.out);(case side5=>repeat(exact(Kd.C_below b4.out q.out)));(case side6=>exact bv.out);(case side7=>repeat(exact(Kd.C_below b5.out q.out)));(case side8=>exact b0.out);(case side9=>repeat(exact(Kd.C_below av.out q.out)));(case side10=>exact ap.out);(case side11=>exact GT.now b1.out q.out);rintro e w20 ⟨rfl,r⟩;replace y:=bbO y r;replace q:=bsO q r;(try clear r)))
  go_ret2
  exact⟨by rfl,by exact q.out⟩
end
end Go.Proofs.YtiphlfpainoeiaaGreatDoor.L
