/- Part 5 of the proof of RedoRecords (conditions: none beyond the statement's own guards). -/
import Derived.Shelf.Strings.BuilderK
import Derived.Maps.OwnSet
import Derived.Maps.OwnOps
import Derived.Test.YtiphlfpainoeiaaGreatDoorQ04
set_option linter.unusedVariables false
set_option linter.unusedSimpArgs false
namespace Go.Proofs.YtiphlfpainoeiaaGreatDoor
open Go.RowKit Go.Proofs.YtiphlfpainoeiaaGreatDoorW.PrintWords L
set_option maxHeartbeats 8000000 in
set_option maxRecDepth 100000 in
theorem ix(nm:ByteArray)(A1 A2 A3 A4:Option Addr)(c1 c2 c3 c4:Nat)(cs:List S86)(key:List Int)(xs:List S88)(rs:List S90)(w:World)(hG:GT w)
 (hr1:k86.C w A1 cs.length cs)(hr2:(Kd.int .i64).C w A2 key.length key)(hr3:k88.C w A3 xs.length xs)(hr4:k90.C w A4 rs.length rs)(hc2:key.length≤c2)
 (hz:df ⟨nm,cs,key,xs,rs⟩):
 Calls Tryz.prog 36 #[.agg #[.string nm, .slice A1 cs.length c1, .slice A2 key.length c2, .slice A3 xs.length c3, .slice A4 rs.length c4]] w fun e w'=>e= .returned (.int .i64 (bh ⟨nm,cs,key,xs,rs⟩))∧Below w.heap.size w w':=by
 have hm1:=Kd.C_max hr1;have hm2:=Kd.C_max hr2;have hm3:=Kd.C_max hr3;have hm4:=Kd.C_max hr4;have HR1:=rn hr1;have HR2:=rn hr2;have HR3:=rn hr3;have HR4:=rn hr4;have U:=rn hG;have HZ:=rn hz;have hzn:nm.size≤9223372036854775807:=hz.name;have HZC:=rn (show∀x∈cs,x.f0.size≤9223372036854775807∧x.f3.f3.size≤9223372036854775807 from hz.cols);have HZX:=rn (show∀x∈xs,x.f0.size≤9223372036854775807 from hz.idxs);have V:=rn (ai (rr w.heap.size w) (.cells #[.string nm, .slice A1 cs.length c1, .slice A2 key.length c2, .slice A3 xs.length c3, .slice A4 rs.length c4] 48));clear hr1 hr2 hr3 hr4 hG hz;have hu:=Tryz.underlying86;have hu48:=Tryz.underlying48;have hu88:=Tryz.underlying88;have hu90:=Tryz.underlying90;cases hnm:db nm with
 |false=>
  have HNM:=rn hnm;have D:=rn (show bh ⟨nm,cs,key,xs,rs⟩=30 from by simp [bh,hnm]);go_enter Tryz.func36,Tryz.ntmps36;go_wp2_with (first|(go_at_call 58;refine(dd _ _ _ (U.out.now V.out) hzn HNM.out).mono ?_;rintro e w1 ⟨rfl,h⟩;have y:=rn (an V.out h);have Y:w.heap.size<w1.heap.size:=(by have:=h.size;simp at this;omega);obtain⟨hcc1,hff1⟩:=bj h;clear h)|(go_at_call 59;refine(dU nm _ _ _ _ _ _ _ _ _ _ _ cs _ _ (U.out.now y.out) (Kd.C_below HR1.out y.out) HZC.out HCE.out).mono ?_;rintro e w2 ⟨rfl,q⟩;have z:=rn (an y.out q);have Z:w.heap.size<w2.heap.size:=rv Y q.size;obtain⟨hcc2,hff2⟩:=bj q;clear q)|(go_at_call 60;refine(ec nm _ _ _ _ _ _ _ _ _ _ _ _ _ _ key _ _ (by omega) (Kd.C_below HR2.out z.out) hc2 HCB.out).mono ?_;rintro e G ⟨rfl,r⟩;have HB3:=rn (an z.out r);have hz3:w.heap.size<G.heap.size:=rv Z r.size;obtain⟨hcc3,hff3⟩:=bj r;clear r));go_ret;exact⟨by rw [D.out];rfl,y.out⟩
 |true=>
 have HNM:=rn hnm;by_cases s1:cs.length<1
 ·have hd1:decide ((cs.length:Int)<1)=true:=ru (by omega)
  have D:=rn (show bh ⟨nm,cs,key,xs,rs⟩=2 from by simp [bh,hnm,s1]);go_enter Tryz.func36,Tryz.ntmps36;go_wp2_with (first|(go_at_call 58;refine(dd _ _ _ (U.out.now V.out) hzn HNM.out).mono ?_;rintro e w1 ⟨rfl,h⟩;have y:=rn (an V.out h);have Y:w.heap.size<w1.heap.size:=(by have:=h.size;simp at this;omega);obtain⟨hcc1,hff1⟩:=bj h;clear h)|(go_at_call 59;refine(dU nm _ _ _ _ _ _ _ _ _ _ _ cs _ _ (U.out.now y.out) (Kd.C_below HR1.out y.out) HZC.out HCE.out).mono ?_;rintro e w2 ⟨rfl,q⟩;have z:=rn (an y.out q);have Z:w.heap.size<w2.heap.size:=rv Y q.size;obtain⟨hcc2,hff2⟩:=bj q;clear q)|(go_at_call 60;refine(ec nm _ _ _ _ _ _ _ _ _ _ _ _ _ _ key _ _ (by omega) (Kd.C_below HR2.out z.out) hc2 HCB.out).mono ?_;rintro e G ⟨rfl,r⟩;have HB3:=rn (an z.out r);have hz3:w.heap.size<G.heap.size:=rv Z r.size;obtain⟨hcc3,hff3⟩:=bj r;clear r));go_ret;exact⟨by rw [D.out];rfl,y.out⟩
 have hd1:decide ((cs.length:Int)<1)=false:=rC (by omega);by_cases s2:64<cs.length
 ·have hd2:decide ((64:Int)<(cs.length:Int))=true:=ru (by omega)
  have hd2':decide (64<cs.length)=true:=ru (by omega);have D:=rn (show bh ⟨nm,cs,key,xs,rs⟩=2 from by simp [bh,hnm,s2]);go_enter Tryz.func36,Tryz.ntmps36;go_wp2_with (first|(go_at_call 58;refine(dd _ _ _ (U.out.now V.out) hzn HNM.out).mono ?_;rintro e w1 ⟨rfl,h⟩;have y:=rn (an V.out h);have Y:w.heap.size<w1.heap.size:=(by have:=h.size;simp at this;omega);obtain⟨hcc1,hff1⟩:=bj h;clear h)|(go_at_call 59;refine(dU nm _ _ _ _ _ _ _ _ _ _ _ cs _ _ (U.out.now y.out) (Kd.C_below HR1.out y.out) HZC.out HCE.out).mono ?_;rintro e w2 ⟨rfl,q⟩;have z:=rn (an y.out q);have Z:w.heap.size<w2.heap.size:=rv Y q.size;obtain⟨hcc2,hff2⟩:=bj q;clear q)|(go_at_call 60;refine(ec nm _ _ _ _ _ _ _ _ _ _ _ _ _ _ key _ _ (by omega) (Kd.C_below HR2.out z.out) hc2 HCB.out).mono ?_;rintro e G ⟨rfl,r⟩;have HB3:=rn (an z.out r);have hz3:w.heap.size<G.heap.size:=rv Z r.size;obtain⟨hcc3,hff3⟩:=bj r;clear r));go_ret;exact⟨by rw [D.out];rfl,y.out⟩
 have hd2:decide ((64:Int)<(cs.length:Int))=false:=rC (by omega);have hd2':decide (64<cs.length)=false:=rC (by omega);by_cases s3:16<xs.length
 ·have hd3:decide (16<xs.length)=true:=ru (by omega)
  have D:=rn (show bh ⟨nm,cs,key,xs,rs⟩=2 from by simp [bh,hnm,s3]);go_enter Tryz.func36,Tryz.ntmps36;go_wp2_with (first|(go_at_call 58;refine(dd _ _ _ (U.out.now V.out) hzn HNM.out).mono ?_;rintro e w1 ⟨rfl,h⟩;have y:=rn (an V.out h);have Y:w.heap.size<w1.heap.size:=(by have:=h.size;simp at this;omega);obtain⟨hcc1,hff1⟩:=bj h;clear h)|(go_at_call 59;refine(dU nm _ _ _ _ _ _ _ _ _ _ _ cs _ _ (U.out.now y.out) (Kd.C_below HR1.out y.out) HZC.out HCE.out).mono ?_;rintro e w2 ⟨rfl,q⟩;have z:=rn (an y.out q);have Z:w.heap.size<w2.heap.size:=rv Y q.size;obtain⟨hcc2,hff2⟩:=bj q;clear q)|(go_at_call 60;refine(ec nm _ _ _ _ _ _ _ _ _ _ _ _ _ _ key _ _ (by omega) (Kd.C_below HR2.out z.out) hc2 HCB.out).mono ?_;rintro e G ⟨rfl,r⟩;have HB3:=rn (an z.out r);have hz3:w.heap.size<G.heap.size:=rv Z r.size;obtain⟨hcc3,hff3⟩:=bj r;clear r));go_ret;exact⟨by rw [D.out];rfl,y.out⟩
 have hd3:decide (16<xs.length)=false:=rC (by omega);by_cases s4:16<rs.length
 ·have hd4:decide (16<rs.length)=true:=ru (by omega)
  have D:=rn (show bh ⟨nm,cs,key,xs,rs⟩=2 from by simp [bh,hnm,s4]);go_enter Tryz.func36,Tryz.ntmps36;go_wp2_with (first|(go_at_call 58;refine(dd _ _ _ (U.out.now V.out) hzn HNM.out).mono ?_;rintro e w1 ⟨rfl,h⟩;have y:=rn (an V.out h);have Y:w.heap.size<w1.heap.size:=(by have:=h.size;simp at this;omega);obtain⟨hcc1,hff1⟩:=bj h;clear h)|(go_at_call 59;refine(dU nm _ _ _ _ _ _ _ _ _ _ _ cs _ _ (U.out.now y.out) (Kd.C_below HR1.out y.out) HZC.out HCE.out).mono ?_;rintro e w2 ⟨rfl,q⟩;have z:=rn (an y.out q);have Z:w.heap.size<w2.heap.size:=rv Y q.size;obtain⟨hcc2,hff2⟩:=bj q;clear q)|(go_at_call 60;refine(ec nm _ _ _ _ _ _ _ _ _ _ _ _ _ _ key _ _ (by omega) (Kd.C_below HR2.out z.out) hc2 HCB.out).mono ?_;rintro e G ⟨rfl,r⟩;have HB3:=rn (an z.out r);have hz3:w.heap.size<G.heap.size:=rv Z r.size;obtain⟨hcc3,hff3⟩:=bj r;clear r));go_ret;exact⟨by rw [D.out];rfl,y.out⟩
 have hd4:decide (16<rs.length)=false:=rC (by omega);obtain⟨ce,X⟩:∃ce,cC cs=ce:=⟨_,rfl⟩;have HCE:=rn X;by_cases hce0:ce=0
 case neg=>
  have hd5:(ce !=0)=true:=by rw [rH];exact hce0
  have D:=rn (show bh ⟨nm,cs,key,xs,rs⟩=ce from by simp [bh,hnm,s1,s2,s3,s4,X,hce0]);go_enter Tryz.func36,Tryz.ntmps36;go_wp2_with (first|(go_at_call 58;refine(dd _ _ _ (U.out.now V.out) hzn HNM.out).mono ?_;rintro e w1 ⟨rfl,h⟩;have y:=rn (an V.out h);have Y:w.heap.size<w1.heap.size:=(by have:=h.size;simp at this;omega);obtain⟨hcc1,hff1⟩:=bj h;clear h)|(go_at_call 59;refine(dU nm _ _ _ _ _ _ _ _ _ _ _ cs _ _ (U.out.now y.out) (Kd.C_below HR1.out y.out) HZC.out HCE.out).mono ?_;rintro e w2 ⟨rfl,q⟩;have z:=rn (an y.out q);have Z:w.heap.size<w2.heap.size:=rv Y q.size;obtain⟨hcc2,hff2⟩:=bj q;clear q)|(go_at_call 60;refine(ec nm _ _ _ _ _ _ _ _ _ _ _ _ _ _ key _ _ (by omega) (Kd.C_below HR2.out z.out) hc2 HCB.out).mono ?_;rintro e G ⟨rfl,r⟩;have HB3:=rn (an z.out r);have hz3:w.heap.size<G.heap.size:=rv Z r.size;obtain⟨hcc3,hff3⟩:=bj r;clear r));go_ret;exact⟨by rw [D.out];rfl,z.out⟩
 subst hce0;cases hcb:cK cs.length key with
 |false=>
  have HCB:=rn hcb;have D:=rn (show bh ⟨nm,cs,key,xs,rs⟩=33 from by simp [bh,hnm,s1,s2,s3,s4,X,hcb]);go_enter Tryz.func36,Tryz.ntmps36;go_wp2_with (first|(go_at_call 58;refine(dd _ _ _ (U.out.now V.out) hzn HNM.out).mono ?_;rintro e w1 ⟨rfl,h⟩;have y:=rn (an V.out h);have Y:w.heap.size<w1.heap.size:=(by have:=h.size;simp at this;omega);obtain⟨hcc1,hff1⟩:=bj h;clear h)|(go_at_call 59;refine(dU nm _ _ _ _ _ _ _ _ _ _ _ cs _ _ (U.out.now y.out) (Kd.C_below HR1.out y.out) HZC.out HCE.out).mono ?_;rintro e w2 ⟨rfl,q⟩;have z:=rn (an y.out q);have Z:w.heap.size<w2.heap.size:=rv Y q.size;obtain⟨hcc2,hff2⟩:=bj q;clear q)|(go_at_call 60;refine(ec nm _ _ _ _ _ _ _ _ _ _ _ _ _ _ key _ _ (by omega) (Kd.C_below HR2.out z.out) hc2 HCB.out).mono ?_;rintro e G ⟨rfl,r⟩;have HB3:=rn (an z.out r);have hz3:w.heap.size<G.heap.size:=rv Z r.size;obtain⟨hcc3,hff3⟩:=bj r;clear r));go_ret;exact⟨by rw [D.out];rfl,HB3.out⟩
 |true=>
 have HCB:=rn hcb;have HRG:=rn (ea _ _ hcb);have HT9:=rn (show bh ⟨nm,cs,key,xs,rs⟩=(if key.any (dm cs)=true then 33 else if cn (bZ cs.length xs) xs.length≠0 then cn (bZ cs.length xs) xs.length else cn (cU cs.length rs) rs.length)from by
  simp only [bh,hnm,X,hcb];simp [s1,s2,s3,s4])
 go_enter Tryz.func36,Tryz.ntmps36;go_wp2_with (first|(go_at_call 58;refine(dd _ _ _ (U.out.now V.out) hzn HNM.out).mono ?_;rintro e w1 ⟨rfl,h⟩;have y:=rn (an V.out h);have Y:w.heap.size<w1.heap.size:=(by have:=h.size;simp at this;omega);obtain⟨hcc1,hff1⟩:=bj h;clear h)|(go_at_call 59;refine(dU nm _ _ _ _ _ _ _ _ _ _ _ cs _ _ (U.out.now y.out) (Kd.C_below HR1.out y.out) HZC.out HCE.out).mono ?_;rintro e w2 ⟨rfl,q⟩;have z:=rn (an y.out q);have Z:w.heap.size<w2.heap.size:=rv Y q.size;obtain⟨hcc2,hff2⟩:=bj q;clear q)|(go_at_call 60;refine(ec nm _ _ _ _ _ _ _ _ _ _ _ _ _ _ key _ _ (by omega) (Kd.C_below HR2.out z.out) hc2 HCB.out).mono ?_;rintro e G ⟨rfl,r⟩;have HB3:=rn (an z.out r);have hz3:w.heap.size<G.heap.size:=rv Z r.size;obtain⟨hcc3,hff3⟩:=bj r;clear r));have e0:=rn (show G.cell? ⟨w.heap.size,0,none⟩=some (.string nm)from(by go_simp));have e1:=rn (show G.cell? ⟨w.heap.size,1,none⟩=some (.slice A1 cs.length c1)from(by go_simp));have e2:=rn (show G.cell? ⟨w.heap.size,2,none⟩=some (.slice A2 key.length c2)from(by go_simp));have e3:=rn (show G.cell? ⟨w.heap.size,3,none⟩=some (.slice A3 xs.length c3)from(by go_simp));have e4:=rn (show G.cell? ⟨w.heap.size,4,none⟩=some (.slice A4 rs.length c4)from(by go_simp));clear hcc1 hff1 hcc2 hff2 hcc3 hff3 hnm X hcb s1 s2 s3 s4 hd1 hd2 hd2' hd3 hd4 Y Z;go_loopw [4] (fun i wr=>∃k:Nat,k≤key.length∧i= .int .i64 k∧Hid ((key.take k).any (dm cs)=false)∧Hid (Below G.heap.size G wr)) (fun i _=>key.length-(intOf i).toNat);case atStart=>exact⟨0,rR _,rfl,rn (by simp),rn (rr _ _)⟩
 case round=>
  obtain⟨w4,rfl⟩:∃w4:World,w4=wr:=⟨_,rfl⟩;obtain⟨k,hk,rfl,HK,HBq⟩:=hrel;have HBk:=rn (an HB3.out HBq.out);have q0:=aj HBq.out e0.out;have q1:=aj HBq.out e1.out;have q2:=aj HBq.out e2.out;have q3:=aj HBq.out e3.out;have q4:=aj HBq.out e4.out;have hz4:w.heap.size<w4.heap.size:=rv hz3 HBq.out.size;by_cases hlt:k<key.length
  ·obtain⟨ad2,rfl,hcl⟩:=Kd.at_int (Kd.C_below HR2.out HBk.out) (k:Int) (by omega) (by omega)
   rw [fL key k hlt]at hcl;simp only [Int.toNat_natCast]at hcl;have hrg:=HRG.out _ (rL hlt);obtain⟨m,hm⟩:=sr hrg.1;have hml:m<cs.length:=(by have:=hrg.2;omega);rw [hm]at hcl;have HM2:=rn hm;clear hm hrg;obtain⟨ad,rfl,y0,y1,y2,y3,y4,y5,y6⟩:=kb (Kd.C_below HR1.out HBk.out) m hml;clear y0 y1 y3 y4 y5 y6;have hi0:(0:Int)≤(k:Int):=(by omega);have hi1:(k:Int)<(key.length:Int):=(by omega);have hi2:(0:Int)≤(m:Int):=(by omega);have hi3:(m:Int)<(cs.length:Int):=(by omega);have HV:=rn (show dm cs key[k]=cs[m].f2 from by rw [HM2.out];simp [dm,List.getD_eq_getElem?_getD,List.getElem?_eq_getElem hml]);cases he:cs[m].f2 with
   |true=>
    have D:=rn (show bh ⟨nm,cs,key,xs,rs⟩=33 from by
     rw [HT9.out,show key.any (dm cs)=true from by rw [sb];exact⟨_,rL hlt,by rw [HV.out,he]⟩];rfl)
    rw [he]at y2;clear he;go_wp2;go_quiet (fail);go_wp2;go_ret;exact⟨by rw [D.out];rfl,aq HBk.out _⟩
   |false=>
    have HM:=rn (show(key.take (k+1)).any (dm cs)=false from by rw [rM hlt,se,HK.out];simp [HV.out,he]);rw [he]at y2;clear he;go_wp2;go_quiet (fail);go_wp2;have HBE:=rn (aq HBq.out nq);go_roundw;case rel=>exact⟨k+1,by omega,by go_num,HM,HBE⟩
    case measure=>simp [intOf];omega
  ·have hkl:k=key.length:=by omega
   subst hkl;have HNU:=rn (show key.any (dm cs)=false from by have:=HK.out;rwa [sl]at this);have HT0:=rn (show bh ⟨nm,cs,key,xs,rs⟩=(if cn (bZ cs.length xs) xs.length≠0 then cn (bZ cs.length xs) xs.length else cn (cU cs.length rs) rs.length)from by
    rw [HT9.out,HNU.out];rfl)
   clear HT9;obtain⟨ie,hie⟩:∃ie,cn (bZ cs.length xs) xs.length=ie:=⟨_,rfl⟩;have HIE:=rn hie;by_cases hie0:ie=0
   case neg=>
    have hd6:(ie !=0)=true:=(by rw [rH];exact hie0);have D:=rn (show bh ⟨nm,cs,key,xs,rs⟩=ie from by rw [HT0.out,HIE.out,rp hie0]);clear hie;go_wp2_with (go_at_call 61;refine(iN nm _ _ _ _ _ _ _ _ _ _ _ xs _ _ (U.out.now HBk.out) (by omega) (Kd.C_below HR3.out HBk.out) HZX.out HIE.out).mono ?_;rintro e w5 ⟨rfl,hb5⟩;have HB5:=rn (an HBk.out hb5);have hz5:w.heap.size<w5.heap.size:=rv hz4 hb5.size;obtain⟨hcc5,hff5⟩:=bj hb5;clear hb5);go_ret;exact⟨by rw [D.out];rfl,HB5.out⟩
   subst hie0;have HI0:=rn hie;clear hie HK;go_wp2_with (go_at_call 61;refine(iN nm _ _ _ _ _ _ _ _ _ _ _ xs _ _ (U.out.now HBk.out) (by omega) (Kd.C_below HR3.out HBk.out) HZX.out HIE.out).mono ?_;rintro e w5 ⟨rfl,hb5⟩;have HB5:=rn (an HBk.out hb5);have hz5:w.heap.size<w5.heap.size:=rv hz4 hb5.size;obtain⟨hcc5,hff5⟩:=bj hb5;clear hb5);have f0:=rn (show w5.cell? ⟨w.heap.size,0,none⟩=some (.string nm)from(by go_simp));have f1:=rn (show w5.cell? ⟨w.heap.size,1,none⟩=some (.slice A1 cs.length c1)from(by go_simp));have f2:=rn (show w5.cell? ⟨w.heap.size,2,none⟩=some (.slice A2 key.length c2)from(by go_simp));have f3:=rn (show w5.cell? ⟨w.heap.size,3,none⟩=some (.slice A3 xs.length c3)from(by go_simp));have f4:=rn (show w5.cell? ⟨w.heap.size,4,none⟩=some (.slice A4 rs.length c4)from(by go_simp));clear q0 q1 q2 q3 q4 hcc5 hff5;go_loopw [6] (fun i wr=>∃k:Nat,k≤rs.length∧i= .int .i64 k∧Hid (e7 (cU cs.length rs) k=true)∧Hid (Below w5.heap.size w5 wr)) (fun i _=>rs.length-(intOf i).toNat);case atStart=>exact⟨0,rR _,rfl,rn (dG _),rn (rr _ _)⟩
   case round=>
    obtain⟨wo,rfl⟩:∃wo:World,wo=wr:=⟨_,rfl⟩;obtain⟨k,hk,rfl,HK,HBr⟩:=hrel;have HBw:=rn (an HB5.out HBr.out);have q0:=aj HBr.out f0.out;have q1:=aj HBr.out f1.out;have q2:=aj HBr.out f2.out;have q3:=aj HBr.out f3.out;have q4:=aj HBr.out f4.out;have hzo:w.heap.size<wo.heap.size:=rv hz5 HBr.out.size;have HGo:=rn (U.out.now HBw.out);by_cases hlt:k<rs.length
    ·have hx:rs.getD k z90=rs[k]:=by simp [List.getD_eq_getElem?_getD,List.getElem?_eq_getElem hlt]
     obtain⟨ad,X1,d1,rfl,b0,b1,b3,b4⟩:=o5 (Kd.C_below HR4.out HBw.out) k hlt;have HLI:=rn b4;clear b4;have hblk:=rE _ _ b0;have hi0:(0:Int)≤(k:Int):=(by omega);have hi1:(k:Int)<(rs.length:Int):=(by omega);have HZK:=rn (HZ.out.refs _ (rL hlt));cases hnb:db rs[k].f1 with
     |false=>
      have HNK:=rn hnb;have X:cU cs.length rs k=30:=(by unfold cU;rw [hx];simp only [hnb];rfl);have HF:=rn ((bO (cU cs.length rs) rs.length k hlt HK.out (by rw [X];decide)).trans X);have D:=rn (show bh ⟨nm,cs,key,xs,rs⟩=30 from by rw [HT0.out,HI0.out,HF.out];rfl);clear X;go_wp2_with (go_at_call 58;refine(dd _ _ _ HGo.out HZK.out HNK.out).mono ?_;rintro e w6 ⟨rfl,J⟩;have HB6:=rn J;have hz6:w.heap.size<w6.heap.size:=rv hzo J.size;obtain⟨hcc6,hff6⟩:=bj J;have b06:=aj J b0;have b16:=aj J b1;clear J);go_ret;exact⟨by rw [D.out];rfl,an HBw.out HB6.out⟩
     |true=>
     have HNK:=rn hnb;cases hck:cK cs.length rs[k].f0 with
     |false=>
      have HCK:=rn hck;have X:cU cs.length rs k=33:=(by unfold cU;rw [hx];simp only [hnb,hck];rfl);have HF:=rn ((bO (cU cs.length rs) rs.length k hlt HK.out (by rw [X];decide)).trans X);have D:=rn (show bh ⟨nm,cs,key,xs,rs⟩=33 from by rw [HT0.out,HI0.out,HF.out];rfl);clear X;go_wp2_with (go_at_call 58;refine(dd _ _ _ HGo.out HZK.out HNK.out).mono ?_;rintro e w6 ⟨rfl,J⟩;have HB6:=rn J;have hz6:w.heap.size<w6.heap.size:=rv hzo J.size;obtain⟨hcc6,hff6⟩:=bj J;have b06:=aj J b0;have b16:=aj J b1;clear J);go_still_tail 7,(by kernel_rfl);change wpList _ _ _ _ _ w6.drew;go_wp2_with (go_at_call 60;refine(ec nm _ _ _ _ _ _ _ _ _ _ _ _ _ _ rs[k].f0 _ _ (by omega) (Kd.C_drew (Kd.C_below HLI.out HB6.out)) b3 HCK.out).mono ?_;rintro e w7 ⟨rfl,hb7⟩;have HB7:=rn (an HB6.out (an (eB (rr _ _)) hb7));clear hb7);go_ret;exact⟨by rw [D.out];rfl,an HBw.out HB7.out⟩
     |true=>
      have HCK:=rn hck;have X:cU cs.length rs k=0:=(by unfold cU;rw [hx];simp only [hnb,hck];rfl);have HM:=rn (cO _ _ HK.out X);clear X hnb hck hx;go_wp2_with (go_at_call 58;refine(dd _ _ _ HGo.out HZK.out HNK.out).mono ?_;rintro e w6 ⟨rfl,J⟩;have HB6:=rn J;have hz6:w.heap.size<w6.heap.size:=rv hzo J.size;obtain⟨hcc6,hff6⟩:=bj J;have b06:=aj J b0;have b16:=aj J b1;clear J);go_still_tail 7,(by kernel_rfl);change wpList _ _ _ _ _ w6.drew;go_wp2_with (go_at_call 60;refine(ec nm _ _ _ _ _ _ _ _ _ _ _ _ _ _ rs[k].f0 _ _ (by omega) (Kd.C_drew (Kd.C_below HLI.out HB6.out)) b3 HCK.out).mono ?_;rintro e w7 ⟨rfl,hb7⟩;have HB7:=rn (an HB6.out (an (eB (rr _ _)) hb7));clear hb7);have HBE:=rn (an HBr.out HB7.out);go_roundw;case rel=>exact⟨k+1,by omega,by go_num,HM,HBE⟩
      case measure=>simp [intOf];omega
    ·have hkl:k=rs.length:=by omega
     subst hkl;have D:=rn (show bh ⟨nm,cs,key,xs,rs⟩=0 from by rw [HT0.out,HI0.out,dE (cU cs.length rs) rs.length HK.out];rfl);go_wp2;go_ret;exact⟨by rw [D.out];rfl,HBw.out⟩
end Go.Proofs.YtiphlfpainoeiaaGreatDoor
namespace Go.Proofs.YtiphlfpainoeiaaGreatDoor
open Go.RowKit Go.Proofs.YtiphlfpainoeiaaGreatDoorW.PrintWords L
structure kY (w:World) (t:S48) (A1 A2 A3 A4:Option Addr) (c1 c2 c3 c4:Nat):Prop where
 r1:k86.C w A1 t.f1.length t.f1
 l1:t.f1.length≤c1
 r2:(Kd.int .i64).C w A2 t.f2.length t.f2
 l2:t.f2.length≤c2
 r3:k88.C w A3 t.f3.length t.f3
 l3:t.f3.length≤c3
 r4:k90.C w A4 t.f4.length t.f4
 l4:t.f4.length≤c4
 ok:df t
theorem kY.below{w W:World}{t:S48}{A1 A2 A3 A4:Option Addr}{c1 c2 c3 c4:Nat}(h:kY w t A1 A2 A3 A4 c1 c2 c3 c4)(q:Below w.heap.size w W):kY W t A1 A2 A3 A4 c1 c2 c3 c4:=
 ⟨Kd.C_below h.r1 q,h.l1,Kd.C_below h.r2 q,h.l2,Kd.C_below h.r3 q,h.l3,Kd.C_below h.r4 q,h.l4,h.ok⟩
section
variable {t:S48} {A1 A2 A3 A4:Option Addr} {c1 c2 c3 c4:Nat} {w:World}
theorem jm(h:kY w t A1 A2 A3 A4 c1 c2 c3 c4)(q:GT w)(r:Int)(hr:bh t=r):Calls Tryz.prog 67 #[.agg #[.string t.f0, .slice A1 t.f1.length c1, .slice A2 t.f2.length c2, .slice A3 t.f3.length c3, .slice A4 t.f4.length c4]] w fun e y=>e= .returned (.int .i64 r)∧Below w.heap.size w y:=by
 subst hr;exact kc t.f0 A1 A2 A3 A4 c1 c2 c3 c4 t.f1 t.f2 t.f3 t.f4 w q h.r1 h.r2 h.r3 h.r4 h.l1 h.l2 h.l3 h.l4 h.ok
theorem gr(h:kY w t A1 A2 A3 A4 c1 c2 c3 c4)(q:GT w)(r:Int)(hr:bh t=r):Calls Tryz.prog 36 #[.agg #[.string t.f0, .slice A1 t.f1.length c1, .slice A2 t.f2.length c2, .slice A3 t.f3.length c3, .slice A4 t.f4.length c4]] w fun e y=>e= .returned (.int .i64 r)∧Below w.heap.size w y:=by
 subst hr;exact ix t.f0 A1 A2 A3 A4 c1 c2 c3 c4 t.f1 t.f2 t.f3 t.f4 w q h.r1 h.r2 h.r3 h.r4 h.l2 h.ok
def cr(cs:List S86)(row:List S84)(i:Nat):Int:=
 if aX (row.getD i z84)≠0 then aX (row.getD i z84)
 else if(row.getD i z84).f0=0 then(if(cs.getD i z86).f2=false then 35 else 0)
 else if(row.getD i z84).f0≠(cs.getD i z86).f1 then 32 else 0
def cf(t:S48)(row:List S84):Int:=
 if bh t≠0 then bh t else if row.length≠t.f1.length then 1 else cn (cr t.f1 row) row.length
set_option maxHeartbeats 16000000 in
set_option maxRecDepth 100000 in
theorem mA(h:kY w t A1 A2 A3 A4 c1 c2 c3 c4)(hG:GT w)(A:Option Addr)(c:Nat)(row:List S84)(hr:k84.C w A row.length row)(hz:∀v∈row,v.f3.size≤9223372036854775807):
 Calls Tryz.prog 56 #[.agg #[.string t.f0, .slice A1 t.f1.length c1, .slice A2 t.f2.length c2, .slice A3 t.f3.length c3, .slice A4 t.f4.length c4], .slice A row.length c] w fun e w'=>e= .returned (.int .i64 (cf t row))∧Below w.heap.size w w':=by
 have hm1:=Kd.C_max h.r1;have hm2:=Kd.C_max hr;have HF:=rn h;have HR:=rn hr;have HG:=rn hG;have HZ:=rn hz;have Y:=rn (ai (rr w.heap.size w) (.cells #[.string t.f0, .slice A1 t.f1.length c1, .slice A2 t.f2.length c2, .slice A3 t.f3.length c3, .slice A4 t.f4.length c4] 48));clear h hr hG hz;have hu:=Tryz.underlying86;have hu48:=Tryz.underlying48;have hu84:=Tryz.underlying84;obtain⟨tc,htc⟩:∃tc,bh t=tc:=⟨_,rfl⟩;have HTC:=rn htc;by_cases htc0:tc=0
 case neg=>
  have hd5:(tc !=0)=true:=by rw [rH];exact htc0
  have J:=rn (show cf t row=tc from by unfold cf;rw [htc,rp htc0]);clear htc;go_enter Tryz.func56,Tryz.ntmps56;go_wp2_with (go_at_call 67;refine(jm (HF.out.below Y.out) (HG.out.now Y.out) _ HTC.out).mono ?_;rintro e w1 ⟨rfl,G⟩;have HB1:=rn (an Y.out G);have hz1:w.heap.size<w1.heap.size:=(by have:=G.size;simp at this;omega);obtain⟨hcc1,hff1⟩:=bj G;clear G);go_ret;exact⟨by rw [J.out];rfl,HB1.out⟩
 subst htc0;by_cases X:row.length=t.f1.length
 case neg=>
  have hd6:(row.length==t.f1.length)=false:=by rw [ry];exact X
  have hd7:(row.length !=t.f1.length)=true:=by rw [rH];exact X
  have hd8:((row.length:Int) !=(t.f1.length:Int))=true:=by rw [rH];omega
  have hd9:((row.length:Int)==(t.f1.length:Int))=false:=by rw [ry];omega
  have J:=rn (show cf t row=1 from by unfold cf;rw [htc];simp [X]);clear htc;go_enter Tryz.func56,Tryz.ntmps56;go_wp2_with (go_at_call 67;refine(jm (HF.out.below Y.out) (HG.out.now Y.out) _ HTC.out).mono ?_;rintro e w1 ⟨rfl,G⟩;have HB1:=rn (an Y.out G);have hz1:w.heap.size<w1.heap.size:=(by have:=G.size;simp at this;omega);obtain⟨hcc1,hff1⟩:=bj G;clear G);go_ret;exact⟨by rw [J.out];rfl,HB1.out⟩
 have hd6:(row.length==t.f1.length)=true:=by rw [rI];exact X
 have hd7:(row.length !=t.f1.length)=false:=by simp [X]
 have hd8:((row.length:Int) !=(t.f1.length:Int))=false:=by simp [X]
 have hd9:((row.length:Int)==(t.f1.length:Int))=true:=by simp [X]
 have HT0:=rn (show cf t row=cn (cr t.f1 row) row.length from by unfold cf;rw [htc];simp [X]);have HLE:=rn X;have hle1:row.length≤t.f1.length:=by omega
 have hle2:t.f1.length≤row.length:=by omega
 clear htc X;go_enter Tryz.func56,Tryz.ntmps56;go_wp2_with (go_at_call 67;refine(jm (HF.out.below Y.out) (HG.out.now Y.out) _ HTC.out).mono ?_;rintro e w1 ⟨rfl,G⟩;have HB1:=rn (an Y.out G);have hz1:w.heap.size<w1.heap.size:=(by have:=G.size;simp at this;omega);obtain⟨hcc1,hff1⟩:=bj G;clear G);have e1:=rn (show w1.cell? ⟨w.heap.size,1,none⟩=some (.slice A1 t.f1.length c1)from(by go_simp));clear hcc1 hff1;go_loopw [24] (fun i wr=>∃k:Nat,k≤row.length∧i= .int .i64 k∧Hid (e7 (cr t.f1 row) k=true)∧Hid (Below w1.heap.size w1 wr)) (fun i _=>row.length-(intOf i).toNat);case atStart=>exact⟨0,rR _,rfl,rn (dG _),rn (rr _ _)⟩
 case round=>
  obtain⟨z,rfl⟩:∃z:World,z=wr:=⟨_,rfl⟩;obtain⟨k,hk,rfl,HK,HBk⟩:=hrel;have HBw:=rn (an HB1.out HBk.out);have q1:=aj HBk.out e1.out;have hzo:w.heap.size<z.heap.size:=rv hz1 HBk.out.size;have HGo:=rn (HG.out.now HBw.out);by_cases hlt:k<row.length
  ·have hlc:k<t.f1.length:=by omega
   have V:row.getD k z84=row[k]:=(by simp [List.getD_eq_getElem?_getD,List.getElem?_eq_getElem hlt]);have U:t.f1.getD k z86=t.f1[k]:=(by simp [List.getD_eq_getElem?_getD,List.getElem?_eq_getElem hlc]);obtain⟨ad,hA1,y0,y1,y2,y3,y4,y5,y6⟩:=kb (Kd.C_below HF.out.r1 HBw.out) k hlc;obtain⟨ad2,hA,v0,v1,v2,v3⟩:=qG (Kd.C_below HR.out HBw.out) k hlt;subst hA1 hA;have hm:=HZ.out _ (rL hlt);generalize row[k]=x at V v0 v1 v2 v3 hm;generalize t.f1[k]=y at U y0 y1 y2 y3 y4 y5 y6;obtain⟨nl,hnl⟩:∃b,y.f2=b:=⟨_,rfl⟩;rw [hnl]at y2;have v0:=aj (ai (rr z.heap.size z) (.cells #[.string y.f0, .int .i64 y.f1, .bool nl, .int .i64 y.f3.f0, .int .i64 y.f3.f1, .float .f64 y.f3.f2, .string y.f3.f3] 86)) v0;have v1:=aj (ai (rr z.heap.size z) (.cells #[.string y.f0, .int .i64 y.f1, .bool nl, .int .i64 y.f3.f0, .int .i64 y.f3.f1, .float .f64 y.f3.f2, .string y.f3.f3] 86)) v1;have v2:=aj (ai (rr z.heap.size z) (.cells #[.string y.f0, .int .i64 y.f1, .bool nl, .int .i64 y.f3.f0, .int .i64 y.f3.f1, .float .f64 y.f3.f2, .string y.f3.f3] 86)) v2;have v3:=aj (ai (rr z.heap.size z) (.cells #[.string y.f0, .int .i64 y.f1, .bool nl, .int .i64 y.f3.f0, .int .i64 y.f3.f1, .float .f64 y.f3.f2, .string y.f3.f3] 86)) v3;have hi0:(0:Int)≤(k:Int):=(by omega);have hi1:(k:Int)<(row.length:Int):=(by omega);have hi2:(k:Int)<(t.f1.length:Int):=(by omega);obtain⟨r,hvr⟩:∃r,aX x=r:=⟨_,rfl⟩;have HV:=rn (show aX ⟨x.f0,x.f1,x.f2,x.f3⟩=r from hvr);by_cases hr0:r=0
   case neg=>
    have hd0:(r !=0)=true:=(by rw [rH];exact hr0);have D:cr t.f1 row k=r:=(by unfold cr;rw [V,U];simp [hvr,hr0]);have J:=rn (show cf t row=r from by rw [HT0.out];exact(bO (cr t.f1 row) row.length k hlt HK.out (by rw [D];exact hr0)).trans D);clear D V U;go_wp2_with (go_at_call 81;refine(bW _ _ _ _ _ _ (HGo.out.now (ai (rr _ _) _)) hm HV.out).mono ?_;rintro e w2 ⟨rfl,q⟩;have Z:=rn (an (ai (rr z.heap.size z) _) q);have hz2:z.heap.size<w2.heap.size:=(by have:=q.size;simp at this;omega);have v02:=aj q v0;obtain⟨hcc2,hff2⟩:=bj q;clear q);go_ret;exact⟨by rw [J.out];rfl,an HBw.out Z.out⟩
   subst hr0;by_cases hn:x.f0=0
   ·have hn1:(x.f0==0)=true:=by rw [rI];exact hn
    have hn2:(x.f0 !=0)=false:=(by simp [hn]);cases nl with
    |false=>
     have D:cr t.f1 row k=35:=(by unfold cr;rw [V,U];simp [hvr,hn,hnl]);have J:=rn (show cf t row=35 from by rw [HT0.out];exact(bO (cr t.f1 row) row.length k hlt HK.out (by rw [D];decide)).trans D);clear D V U hn;go_wp2_with (go_at_call 81;refine(bW _ _ _ _ _ _ (HGo.out.now (ai (rr _ _) _)) hm HV.out).mono ?_;rintro e w2 ⟨rfl,q⟩;have Z:=rn (an (ai (rr z.heap.size z) _) q);have hz2:z.heap.size<w2.heap.size:=(by have:=q.size;simp at this;omega);have v02:=aj q v0;obtain⟨hcc2,hff2⟩:=bj q;clear q);go_ret;exact⟨by rw [J.out];rfl,an HBw.out Z.out⟩
    |true=>
     have D:cr t.f1 row k=0:=(by unfold cr;rw [V,U];simp [hvr,hn,hnl]);have HM:=rn (cO _ _ HK.out D);clear D V U hvr hn;go_wp2_with (go_at_call 81;refine(bW _ _ _ _ _ _ (HGo.out.now (ai (rr _ _) _)) hm HV.out).mono ?_;rintro e w2 ⟨rfl,q⟩;have Z:=rn (an (ai (rr z.heap.size z) _) q);have hz2:z.heap.size<w2.heap.size:=(by have:=q.size;simp at this;omega);have v02:=aj q v0;obtain⟨hcc2,hff2⟩:=bj q;clear q);go_quiet (fail);go_wp2;have HBE:=rn (aq (an HBk.out Z.out) nq);go_roundw;case rel=>exact⟨k+1,by omega,by go_num,HM,HBE⟩
     case measure=>simp [intOf];omega
   have hn1:(x.f0==0)=false:=(by rw [ry];exact hn);have hn2:(x.f0 !=0)=true:=(by rw [rH];exact hn);by_cases hkk:x.f0=y.f1
   ·have hk1:(x.f0==y.f1)=true:=by rw [rI];exact hkk
    have hk2:(x.f0 !=y.f1)=false:=(by simp [hkk]);have D:cr t.f1 row k=0:=(by unfold cr;rw [V,U];simp [hvr,hn,←hkk]);have HM:=rn (cO _ _ HK.out D);clear D V U hvr hkk hn;go_wp2_with (go_at_call 81;refine(bW _ _ _ _ _ _ (HGo.out.now (ai (rr _ _) _)) hm HV.out).mono ?_;rintro e w2 ⟨rfl,q⟩;have Z:=rn (an (ai (rr z.heap.size z) _) q);have hz2:z.heap.size<w2.heap.size:=(by have:=q.size;simp at this;omega);have v02:=aj q v0;obtain⟨hcc2,hff2⟩:=bj q;clear q);go_quiet (fail);go_wp2;have HBE:=rn (aq (an HBk.out Z.out) nq);go_roundw;case rel=>exact⟨k+1,by omega,by go_num,HM,HBE⟩
    case measure=>simp [intOf];omega
   ·have hk1:(x.f0==y.f1)=false:=by rw [ry];exact hkk
    have hk2:(x.f0 !=y.f1)=true:=(by rw [rH];exact hkk);have D:cr t.f1 row k=32:=(by unfold cr;rw [V,U];simp [hvr,hn,hkk]);have J:=rn (show cf t row=32 from by rw [HT0.out];exact(bO (cr t.f1 row) row.length k hlt HK.out (by rw [D];decide)).trans D);clear D V U;go_wp2_with (go_at_call 81;refine(bW _ _ _ _ _ _ (HGo.out.now (ai (rr _ _) _)) hm HV.out).mono ?_;rintro e w2 ⟨rfl,q⟩;have Z:=rn (an (ai (rr z.heap.size z) _) q);have hz2:z.heap.size<w2.heap.size:=(by have:=q.size;simp at this;omega);have v02:=aj q v0;obtain⟨hcc2,hff2⟩:=bj q;clear q);go_quiet (fail);go_wp2;go_ret;exact⟨by rw [J.out];rfl,aq (an HBw.out Z.out) nq⟩
  ·have hkl:k=row.length:=by omega
   subst hkl;have J:=rn (show cf t row=0 from by rw [HT0.out];exact dE _ _ HK.out);go_wp2;go_ret;exact⟨by rw [J.out];rfl,HBw.out⟩
set_option maxHeartbeats 16000000 in
set_option maxRecDepth 100000 in
theorem ke(h:kY w t A1 A2 A3 A4 c1 c2 c3 c4)(hG:GT w)(A:Option Addr)(c:Nat)(row:List S84)(hr:k84.C w A row.length row)(hz:∀v∈row,v.f3.size≤9223372036854775807):
 Calls Tryz.prog 63 #[.agg #[.string t.f0, .slice A1 t.f1.length c1, .slice A2 t.f2.length c2, .slice A3 t.f3.length c3, .slice A4 t.f4.length c4], .slice A row.length c] w fun e w'=>e= .returned (.int .i64 (cf t row))∧Below w.heap.size w w':=by
 have hm1:=Kd.C_max h.r1;have hm2:=Kd.C_max hr;have HF:=rn h;have HR:=rn hr;have HG:=rn hG;have HZ:=rn hz;have X:=rn (ai (rr w.heap.size w) (.cells #[.string t.f0, .slice A1 t.f1.length c1, .slice A2 t.f2.length c2, .slice A3 t.f3.length c3, .slice A4 t.f4.length c4] 48));clear h hr hG hz;have hu:=Tryz.underlying86;have hu48:=Tryz.underlying48;have hu84:=Tryz.underlying84;obtain⟨tc,av⟩:∃tc,bh t=tc:=⟨_,rfl⟩;have HTC:=rn av;by_cases htc0:tc=0
 case neg=>
  have hd5:(tc !=0)=true:=by rw [rH];exact htc0
  have G:=rn (show cf t row=tc from by unfold cf;rw [av,rp htc0]);clear av;go_enter Tryz.func63,Tryz.ntmps63;go_wp2_with (go_at_call 36;refine(gr (HF.out.below X.out) (HG.out.now X.out) _ HTC.out).mono ?_;rintro e w1 ⟨rfl,D⟩;have HB1:=rn (an X.out D);have hz1:w.heap.size<w1.heap.size:=(by have:=D.size;simp at this;omega);obtain⟨hcc1,hff1⟩:=bj D;clear D);go_ret;exact⟨by rw [G.out];rfl,HB1.out⟩
 subst htc0;by_cases V:row.length=t.f1.length
 case neg=>
  have hd6:(row.length==t.f1.length)=false:=by rw [ry];exact V
  have hd7:(row.length !=t.f1.length)=true:=by rw [rH];exact V
  have hd8:((row.length:Int) !=(t.f1.length:Int))=true:=by rw [rH];omega
  have hd9:((row.length:Int)==(t.f1.length:Int))=false:=by rw [ry];omega
  have G:=rn (show cf t row=1 from by unfold cf;rw [av];simp [V]);clear av;go_enter Tryz.func63,Tryz.ntmps63;go_wp2_with (go_at_call 36;refine(gr (HF.out.below X.out) (HG.out.now X.out) _ HTC.out).mono ?_;rintro e w1 ⟨rfl,D⟩;have HB1:=rn (an X.out D);have hz1:w.heap.size<w1.heap.size:=(by have:=D.size;simp at this;omega);obtain⟨hcc1,hff1⟩:=bj D;clear D);go_ret;exact⟨by rw [G.out];rfl,HB1.out⟩
 have hd6:(row.length==t.f1.length)=true:=by rw [rI];exact V
 have hd7:(row.length !=t.f1.length)=false:=by simp [V]
 have hd8:((row.length:Int) !=(t.f1.length:Int))=false:=by simp [V]
 have hd9:((row.length:Int)==(t.f1.length:Int))=true:=by simp [V]
 have HT0:=rn (show cf t row=cn (cr t.f1 row) row.length from by unfold cf;rw [av];simp [V]);have HLE:=rn V;have hle1:row.length≤t.f1.length:=by omega
 have hle2:t.f1.length≤row.length:=by omega
 clear av V;go_enter Tryz.func63,Tryz.ntmps63;go_wp2_with (go_at_call 36;refine(gr (HF.out.below X.out) (HG.out.now X.out) _ HTC.out).mono ?_;rintro e w1 ⟨rfl,D⟩;have HB1:=rn (an X.out D);have hz1:w.heap.size<w1.heap.size:=(by have:=D.size;simp at this;omega);obtain⟨hcc1,hff1⟩:=bj D;clear D);have e1:=rn (show w1.cell? ⟨w.heap.size,1,none⟩=some (.slice A1 t.f1.length c1)from(by go_simp));clear hcc1 hff1;go_loopw [6] (fun i wr=>∃k:Nat,k≤row.length∧i= .int .i64 k∧Hid (e7 (cr t.f1 row) k=true)∧Hid (Below w1.heap.size w1 wr)) (fun i _=>row.length-(intOf i).toNat);case atStart=>exact⟨0,rR _,rfl,rn (dG _),rn (rr _ _)⟩
 case round=>
  obtain⟨wo,rfl⟩:∃wo:World,wo=wr:=⟨_,rfl⟩;obtain⟨k,hk,rfl,HK,HBk⟩:=hrel;have am:=rn (an HB1.out HBk.out);have q1:=aj HBk.out e1.out;have hzo:w.heap.size<wo.heap.size:=rv hz1 HBk.out.size;have HGo:=rn (HG.out.now am.out);by_cases hlt:k<row.length
  ·have hlc:k<t.f1.length:=by omega
   have U:row.getD k z84=row[k]:=(by simp [List.getD_eq_getElem?_getD,List.getElem?_eq_getElem hlt]);have J:t.f1.getD k z86=t.f1[k]:=(by simp [List.getD_eq_getElem?_getD,List.getElem?_eq_getElem hlc]);obtain⟨ad,hA1,y0,y1,y2,y3,y4,y5,y6⟩:=kb (Kd.C_below HF.out.r1 am.out) k hlc;obtain⟨ad2,hA,v0,v1,v2,v3⟩:=qG (Kd.C_below HR.out am.out) k hlt;subst hA1 hA;have hm:=HZ.out _ (rL hlt);generalize row[k]=x at U v0 v1 v2 v3 hm;generalize t.f1[k]=y at J y0 y1 y2 y3 y4 y5 y6;obtain⟨nl,hnl⟩:∃b,y.f2=b:=⟨_,rfl⟩;rw [hnl]at y2;have hi0:(0:Int)≤(k:Int):=(by omega);have hi1:(k:Int)<(row.length:Int):=(by omega);have hi2:(k:Int)<(t.f1.length:Int):=(by omega);obtain⟨r,Z⟩:∃r,aX x=r:=⟨_,rfl⟩;have HV:=rn (show aX ⟨x.f0,x.f1,x.f2,x.f3⟩=r from Z);by_cases hr0:r=0
   case neg=>
    have hd0:(r !=0)=true:=(by rw [rH];exact hr0);have z:cr t.f1 row k=r:=(by unfold cr;rw [U,J];simp [Z,hr0]);have G:=rn (show cf t row=r from by rw [HT0.out];exact(bO (cr t.f1 row) row.length k hlt HK.out (by rw [z];exact hr0)).trans z);clear z U J;go_wp2_with (go_at_call 88;refine(cq _ _ _ _ _ _ HGo.out hm HV.out).mono ?_;rintro e w2 ⟨rfl,q⟩;have Y:=rn q;have v02:=aj q v0;have y12:=aj q y1;have y22:=aj q y2;have q12:=aj q q1;clear q);go_ret;exact⟨by rw [G.out];rfl,an am.out Y.out⟩
   subst hr0;by_cases hn:x.f0=0
   ·have hn1:(x.f0==0)=true:=by rw [rI];exact hn
    have hn2:(x.f0 !=0)=false:=(by simp [hn]);cases nl with
    |false=>
     have z:cr t.f1 row k=35:=(by unfold cr;rw [U,J];simp [Z,hn,hnl]);have G:=rn (show cf t row=35 from by rw [HT0.out];exact(bO (cr t.f1 row) row.length k hlt HK.out (by rw [z];decide)).trans z);clear z U J hn;go_wp2_with (go_at_call 88;refine(cq _ _ _ _ _ _ HGo.out hm HV.out).mono ?_;rintro e w2 ⟨rfl,q⟩;have Y:=rn q;have v02:=aj q v0;have y12:=aj q y1;have y22:=aj q y2;have q12:=aj q q1;clear q);go_ret;exact⟨by rw [G.out];rfl,an am.out Y.out⟩
    |true=>
     have z:cr t.f1 row k=0:=(by unfold cr;rw [U,J];simp [Z,hn,hnl]);have HM:=rn (cO _ _ HK.out z);clear z U J Z hn;go_wp2_with (go_at_call 88;refine(cq _ _ _ _ _ _ HGo.out hm HV.out).mono ?_;rintro e w2 ⟨rfl,q⟩;have Y:=rn q;have v02:=aj q v0;have y12:=aj q y1;have y22:=aj q y2;have q12:=aj q q1;clear q);have HBE:=rn (an HBk.out Y.out);go_roundw;case rel=>exact⟨k+1,by omega,by go_num,HM,HBE⟩
     case measure=>simp [intOf];omega
   have hn1:(x.f0==0)=false:=(by rw [ry];exact hn);have hn2:(x.f0 !=0)=true:=(by rw [rH];exact hn);by_cases ap:x.f0=y.f1
   ·have hk1:(x.f0==y.f1)=true:=by rw [rI];exact ap
    have hk2:(x.f0 !=y.f1)=false:=(by simp [ap]);have z:cr t.f1 row k=0:=(by unfold cr;rw [U,J];simp [Z,hn,←ap]);have HM:=rn (cO _ _ HK.out z);clear z U J Z ap hn;go_wp2_with (go_at_call 88;refine(cq _ _ _ _ _ _ HGo.out hm HV.out).mono ?_;rintro e w2 ⟨rfl,q⟩;have Y:=rn q;have v02:=aj q v0;have y12:=aj q y1;have y22:=aj q y2;have q12:=aj q q1;clear q);go_quiet (fail);go_wp2;have HBE:=rn (aq (an HBk.out Y.out) nq);go_roundw;case rel=>exact⟨k+1,by omega,by go_num,HM,HBE⟩
    case measure=>simp [intOf];omega
   ·have hk1:(x.f0==y.f1)=false:=by rw [ry];exact ap
    have hk2:(x.f0 !=y.f1)=true:=(by rw [rH];exact ap);have z:cr t.f1 row k=32:=(by unfold cr;rw [U,J];simp [Z,hn,ap]);have G:=rn (show cf t row=32 from by rw [HT0.out];exact(bO (cr t.f1 row) row.length k hlt HK.out (by rw [z];decide)).trans z);clear z U J;go_wp2_with (go_at_call 88;refine(cq _ _ _ _ _ _ HGo.out hm HV.out).mono ?_;rintro e w2 ⟨rfl,q⟩;have Y:=rn q;have v02:=aj q v0;have y12:=aj q y1;have y22:=aj q y2;have q12:=aj q q1;clear q);go_quiet (fail);go_wp2;go_ret;exact⟨by rw [G.out];rfl,aq (an am.out Y.out) nq⟩
  ·have hkl:k=row.length:=by omega
   subst hkl;have G:=rn (show cf t row=0 from by rw [HT0.out];exact dE _ _ HK.out);go_wp2;go_ret;exact⟨by rw [G.out];rfl,am.out⟩
end
end Go.Proofs.YtiphlfpainoeiaaGreatDoor
namespace Go.Proofs.YtiphlfpainoeiaaGreatDoor
open Go.RowKit Go.Proofs.YtiphlfpainoeiaaGreatDoorW.PrintWords L
def bR.f(a0 h:Int)(q:Nat)(a3:ByteArray):Option Int:=if a3.size≤9223372036854775807 then some (aX ⟨a0,h,q,a3⟩)else none
theorem bR.calls(a0 q:Int)(y:Nat)(a3:ByteArray)(r:Int)(w:World)(z:GT w)(h:bR.f a0 q y a3=some r):
 Calls Tryz.prog 81 #[.agg #[.int .i64 a0, .int .i64 q, .float .f64 y, .string a3]] w fun e D=>e= .returned (.int .i64 r)∧Below w.heap.size w D:=by
 unfold bR.f at h;split at h;·exact bW a0 q y a3 r w z ‹_› (rD h)
 ·cases h
def cp.f(a0 h:Int)(q:Nat)(a3:ByteArray):Option Int:=if a3.size≤9223372036854775807 then some (aX ⟨a0,h,q,a3⟩)else none
theorem cp.calls(a0 q:Int)(y:Nat)(a3:ByteArray)(r:Int)(w:World)(z:GT w)(h:cp.f a0 q y a3=some r):
 Calls Tryz.prog 88 #[.agg #[.int .i64 a0, .int .i64 q, .float .f64 y, .string a3]] w fun e D=>e= .returned (.int .i64 r)∧Below w.heap.size w D:=by
 unfold cp.f at h;split at h;·exact cq a0 q y a3 r w z ‹_› (rD h)
 ·cases h
open Classical in
noncomputable def bY.f(a0:ByteArray)(l1:List S86)(l2:List Int)(l3:List S88)(l4:List S90)(row:List S84):Option Int:=
 if df ⟨a0,l1,l2,l3,l4⟩∧(∀v∈row,v.f3.size≤9223372036854775807)then some (cf ⟨a0,l1,l2,l3,l4⟩ row)else none
theorem bY.calls(a0:ByteArray)(A1:Option Addr)(c1:Nat)(l1:List S86)(A2:Option Addr)(c2:Nat)(l2:List Int)(A3:Option Addr)(c3:Nat)(l3:List S88)(A4:Option Addr)(c4:Nat)(l4:List S90)(A:Option Addr)(c:Nat)(row:List S84)(r:Int)(w:World)
 (h1:k86.C w A1 l1.length l1)(U:l1.length≤c1)(y:(Kd.int .i64).C w A2 l2.length l2)(V:l2.length≤c2)(z:k88.C w A3 l3.length l3)(X:l3.length≤c3)(D:k90.C w A4 l4.length l4)(Y:l4.length≤c4)(hr:k84.C w A row.length row)(hc:row.length≤c)(J:GT w)(h:bY.f a0 l1 l2 l3 l4 row=some r):
 Calls Tryz.prog 56 #[.agg #[.string a0, .slice A1 l1.length c1, .slice A2 l2.length c2, .slice A3 l3.length c3, .slice A4 l4.length c4], .slice A row.length c] w fun e Z=>e= .returned (.int .i64 r)∧Below w.heap.size w Z:=by
 unfold bY.f at h;split at h
 ·rename_i q
  have G:=rD h;subst G;exact mA (t:=⟨a0,l1,l2,l3,l4⟩) ⟨h1,U,y,V,z,X,D,Y,q.1⟩ J A c row hr q.2
 ·cases h
open Classical in
noncomputable def bI.f(a0:ByteArray)(l1:List S86)(l2:List Int)(l3:List S88)(l4:List S90)(row:List S84):Option Int:=
 if df ⟨a0,l1,l2,l3,l4⟩∧(∀v∈row,v.f3.size≤9223372036854775807)then some (cf ⟨a0,l1,l2,l3,l4⟩ row)else none
theorem bI.calls(a0:ByteArray)(A1:Option Addr)(c1:Nat)(l1:List S86)(A2:Option Addr)(c2:Nat)(l2:List Int)(A3:Option Addr)(c3:Nat)(l3:List S88)(A4:Option Addr)(c4:Nat)(l4:List S90)(A:Option Addr)(c:Nat)(row:List S84)(r:Int)(w:World)
 (h1:k86.C w A1 l1.length l1)(U:l1.length≤c1)(y:(Kd.int .i64).C w A2 l2.length l2)(V:l2.length≤c2)(z:k88.C w A3 l3.length l3)(X:l3.length≤c3)(D:k90.C w A4 l4.length l4)(Y:l4.length≤c4)(hr:k84.C w A row.length row)(hc:row.length≤c)(J:GT w)(h:bI.f a0 l1 l2 l3 l4 row=some r):
 Calls Tryz.prog 63 #[.agg #[.string a0, .slice A1 l1.length c1, .slice A2 l2.length c2, .slice A3 l3.length c3, .slice A4 l4.length c4], .slice A row.length c] w fun e Z=>e= .returned (.int .i64 r)∧Below w.heap.size w Z:=by
 unfold bI.f at h;split at h
 ·rename_i q
  have G:=rD h;subst G;exact ke (t:=⟨a0,l1,l2,l3,l4⟩) ⟨h1,U,y,V,z,X,D,Y,q.1⟩ J A c row hr q.2
 ·cases h
@[go_sem]theorem ob (a b:Int) (c:Nat) (d:ByteArray) (w:World):(Instr.field 84 (.agg #[.int .i64 a, .int .i64 b, .float .f64 c, .string d]) 2).run Tryz.prog w= .ok (.float .f64 c) w:=by kernel_rfl
def ev(b:Nat):Nat:=if(FloatKind.f64.format.order b 0==some .eq)=true then 0 else b
def fN(b:Nat):Nat:=if(FloatKind.f64.format.order b b !=some .eq)=true then 9221120237041090560 else b
def bQ.f(a0 h:Int)(q:Nat)(a3:ByteArray):Option (Int×Int×Nat×ByteArray):=if a0=3 then some (a0,h,fN (ev q),a3)else some (a0,h,q,a3)
set_option maxHeartbeats 8000000 in
set_option maxRecDepth 100000 in
theorem bQ.calls(a0 r:Int)(q:Nat)(a3:ByteArray)(V r1:Int)(r2:Nat)(r3:ByteArray)(w:World)(h:bQ.f a0 r q a3=some (V,r1,r2,r3)):
 Calls Tryz.prog 143 #[.agg #[.int .i64 a0, .int .i64 r, .float .f64 q, .string a3]] w fun e Y=>e= .returned (.agg #[.int .i64 V, .int .i64 r1, .float .f64 r2, .string r3])∧Below w.heap.size w Y:=by
 unfold bQ.f at h;by_cases D:a0=3
 case neg=>
  rw [rq D]at h;simp only [Option.some.injEq,Prod.mk.injEq]at h;obtain⟨rfl,rfl,rfl,rfl⟩:=h;have X:(a0 !=3)=true:=by rw [rH];exact D
  go_enter Tryz.func143,Tryz.ntmps143;go_wp2;refine rN (so rfl _ _ (w.heap.size+1) 84 #[.int .i64 a0, .int .i64 r, .float .f64 q, .string a3] (0,0) _ rfl ?blk Tryz.underlying84 rfl ?inf) rfl ?_;case inf=>kernel_rfl
  case blk=>simpa using cl (World.alloc _ _) _
  exact⟨rfl,by repeat(first|exact rr _ _|apply ai)⟩
 rw [rp D]at h;simp only [Option.some.injEq,Prod.mk.injEq]at h;obtain⟨rfl,rfl,U,rfl⟩:=h;have X:(a0 !=3)=false:=by simp [D]
 have J:=rn U;clear U D;by_cases h1:(FloatKind.f64.format.order q 0==some .eq)=true
 ·have G:=rn (show ev q=0 from rp h1)
  have z:(FloatKind.f64.format.order 0 0 !=some .eq)=false:=by decide
  have y:=rn (show r2=0 from by rw [←J.out,G.out];exact rq (by rw [z];simp));go_enter Tryz.func143,Tryz.ntmps143;go_wp2;refine rN (so rfl _ _ (w.heap.size+1) 84 #[.int .i64 a0, .int .i64 r, .float .f64 0, .string a3] (0,0) _ rfl ?blk Tryz.underlying84 rfl ?inf) rfl ?_;case inf=>kernel_rfl
  case blk=>simpa using cl (World.alloc _ _) _
  exact⟨by rw [y.out],by repeat(first|exact rr _ _|apply ai)⟩
 ·have G:=rn (show ev q=q from rq h1)
  simp only [Bool.not_eq_true]at h1;by_cases z:(FloatKind.f64.format.order q q !=some .eq)=true
  ·have y:=rn (show r2=9221120237041090560 from by rw [←J.out,G.out];exact rp z)
   go_enter Tryz.func143,Tryz.ntmps143;go_wp2;refine rN (so rfl _ _ (w.heap.size+1) 84 #[.int .i64 a0, .int .i64 r, .float .f64 9221120237041090560, .string a3] (0,0) _ rfl ?blk Tryz.underlying84 rfl ?inf) rfl ?_;case inf=>kernel_rfl
   case blk=>simpa using cl (World.alloc _ _) _
   exact⟨by rw [y.out],by repeat(first|exact rr _ _|apply ai)⟩
  ·have y:=rn (show r2=q from by rw [←J.out,G.out];exact rq z)
   simp only [Bool.not_eq_true]at z;go_enter Tryz.func143,Tryz.ntmps143;go_wp2;refine rN (so rfl _ _ (w.heap.size+1) 84 #[.int .i64 a0, .int .i64 r, .float .f64 q, .string a3] (0,0) _ rfl ?blk Tryz.underlying84 rfl ?inf) rfl ?_;case inf=>kernel_rfl
   case blk=>simpa using cl (World.alloc _ _) _
   exact⟨by rw [y.out],by repeat(first|exact rr _ _|apply ai)⟩
end Go.Proofs.YtiphlfpainoeiaaGreatDoor
namespace Go.Proofs.YtiphlfpainoeiaaGreatDoor.L
open Go.RowKit Go.Proofs.YtiphlfpainoeiaaGreatDoorW.PrintWords Go.Proofs.YtiphlfpainoeiaaGreatDoorW.PrintLast Go.Proofs.YtiphlfpainoeiaaGreatDoorW.PrintMore
attribute [local go_sem] cj cB
def b9.f(l0:List Int)(q:ByteArray):Option (List Int):=(ch.f q (⟨#[0]⟩:ByteArray) (⟨#[0,255]⟩:ByteArray)).bind fun t101=>(if l0.length+t101.size<140737488355328 then((some (l0++br t101:List Int)).bind fun h=>(if h.length<140737488355328 then(some (h++ [0]))else(none)))else(none))
set_option maxHeartbeats 8000000 in
set_option maxRecDepth 100000 in
theorem b9.calls(D:Nat→Prop)(Y:Value)(l0:List Int)(X:ByteArray)(r:List Int)(w0 w:World)(hB:Below w0.heap.size w0 w)(ho0:Kd.R (Kd.int .u8) 5 w w0.heap.size D Y l0)(hG:GT w0)(h:b9.f l0 X=some r):
 Calls Tryz.prog 144 #[Y, .string X] w fun e w'=>∃v0_:Value,e= .returned (v0_)∧Kd.R (Kd.int .u8) 5 w' w0.heap.size (fun q=>(D q∨w.heap.size≤q)) v0_ r∧Below w0.heap.size w0 w'∧bV w w' (fun q=>D q):=by
 have V:=aa.mk (show Kd.R (Kd.int .u8) 5 w w0.heap.size (fun q=>(D q∨w.heap.size≤q)) Y l0 from Kd.R_mono ho0 (fun q U=>(.inl U)));have J:=aa.mk (bV.refl w (fun q=>D q));have z:=aa.mk hB;clear hB;have HGT:=aa.mk hG;clear hG;have H:((ch.f X (⟨#[0]⟩:ByteArray) (⟨#[0,255]⟩:ByteArray)).bind fun t101=>(if l0.length+t101.size<140737488355328 then((some (l0++br t101:List Int)).bind fun y=>(if y.length<140737488355328 then(some (y++ [0]))else(none)))else(none)))=some r:=h;clear h;replace H:=rB.mp H;obtain⟨t101,A30,H⟩:=H;replace H:(if l0.length+t101.size<140737488355328 then((some (l0++br t101:List Int)).bind fun y=>(if y.length<140737488355328 then(some (y++ [0]))else(none)))else(none))=some r:=H;have A3:=aa.mk A30;clear A30;by_cases c4:l0.length+t101.size<140737488355328
 ·rw [rp c4]at H
  have LMc4:=aa.mk c4;clear c4;obtain⟨y,hy102⟩:∃y_:List Int,y_=(l0++br t101):=⟨_,rfl⟩;replace H:(if y.length<140737488355328 then(some (y++ [0]))else(none))=some r:=by(have H2_:=(rG _ _).symm.trans H;rw [hy102];with_reducible exact H2_)
  have Ny102:=aa.mk hy102;clear hy102;by_cases c5:y.length<140737488355328
  ·rw [rp c5]at H
   have LMc5:=aa.mk c5;clear c5;obtain⟨y105,hy105⟩:∃y_:List Int,y_=(y++ [0]):=⟨_,rfl⟩;replace H:(some y105)=some r:=by(rw [hy105];with_reducible exact H)
   have Ny105:=aa.mk hy105;clear hy105;obtain rfl:=rD H;go_enter Tryz.func144,Tryz.ntmps144;go_wp2_with (first|((with_reducible refine cF (f:=103) rfl ?_);go_loud (refine ee (some 7) rfl rfl Tryz.func103 (by kernel_rfl) rfl #[.string X, .string (⟨#[0]⟩:ByteArray), .string (⟨#[0,255]⟩:ByteArray)] rfl (by(try simp only [List.map_toArray,List.map_cons,List.map_nil]);rfl) ?_;(with_reducible refine(ch.calls X (⟨#[0]⟩:ByteArray) (⟨#[0,255]⟩:ByteArray) t101 _ ?side1 A3.out).mono ?_);(case side1=>exact GT.now HGT.out z.out);rintro e w6 ⟨rfl,G⟩;replace V:=aa.mk (Kd.R_below V.out G);replace J:=aa.mk (bV.below (S:=(fun q=>D q)) J.out G);replace z:=aa.mk (bn z.out G);(try clear G)))|(at_builtin;refine jk (w0:=w0) w0.heap.size rfl (.tmp 5) _ 66 9 5 rfl Tryz.underlying66 Tryz.underlying9 b8 Y l0 t101 (fun q=>(D q∨w.heap.size≤q)) rfl rfl ?aF ?aO ?aB ?aS ?aL ?_;(case aF=>exact(fun q U=>(.inr (rK J.out.1 U))));(case aB=>exact z.out);(case aO=>exact V.out);(case aS=>exact(ay z.out));(case aL=>have:=LMc4.out;omega);intro v103 w7 ho G hg hat;rw [←Ny102.out]at ho;replace z:=aa.mk (G);replace J:=aa.mk (bV.of_grown (S:=(fun q=>D q)) hg J.out (fun q e_=>(V.out.1 q e_)));have Z:=aa.mk (ho);clear V;clear ho G hg hat)|((with_reducible refine aZ (b:= .append) (xs:= #[.tmp 8, .tmp 9]) rfl ?_);at_builtin;refine Kd.R_append (Kd.int .u8) (w0:=w0) w0.heap.size rfl (.tmp 8) (.tmp 9) 66 5 (.int .u8 0) 1 rfl Tryz.underlying66 b8 rfl (by decide) (by omega) v103 y 0 [.int .u8 0] (fun q=>(D q∨w.heap.size≤q)) (fun _=>False) rfl rfl ?aP (fun _ U=>U.elim) ?aF ?aO ?aB ?aS ?aL ?_;(case aP=>exact rfl);(case aB=>exact z.out);(case aF=>exact(fun q U=>(.inr (rK J.out.1 U))));(case aO=>exact Z.out);(case aS=>exact(ay z.out));(case aL=>have:=LMc5.out;omega);intro v106 w8 ho G hg hat;rw [←Ny105.out]at ho;replace z:=aa.mk (G);replace J:=aa.mk (bV.of_grown (S:=(fun q=>D q)) hg J.out (fun q e_=>(Z.out.1 q e_)));have HO107:=aa.mk (ho);clear Z;clear ho G hg hat));go_ret;exact⟨_,by rfl,by exact HO107.out,by exact z.out,by exact J.out⟩
  ·rw [rq c5]at H
   exact absurd H (by simp)
 ·rw [if_neg c4]at H
  exact absurd H (by simp)
def bN.f(k:Nat)(a0:Int):Option (List Int):=if a0≥0 then((a7.f k (IntKind.u64.wrap (a0))).bind fun t111=>(if([]:List Int).length<140737488355328 then((some (([]:List Int)++ [(wrap64 (128+t111))%256]:List Int)).bind fun h=>((aK.f k (IntKind.u64.wrap (a0)) t111).bind fun t115=>(if h.length+t115.length<140737488355328 then(some (h++t115))else(none))))else(none)))else((a7.f k (IntKind.u64.wrap (wrap64 (-(wrap64 (a0+1)))))).bind fun t121=>(if t121=0 then(if([]:List Int).length<140737488355328 then((some (([]:List Int)++ [128-1]:List Int)).bind fun q=>((aK.f k (Go.bits .xor .u64 18446744073709551615 (IntKind.u64.wrap (wrap64 (-(wrap64 (a0+1)))))) 1).bind fun t125=>(if q.length+t125.length<140737488355328 then(some (q++t125))else(none))))else(none))else(if([]:List Int).length<140737488355328 then((some (([]:List Int)++ [(wrap64 (128-t121))%256]:List Int)).bind fun r=>((aK.f k (Go.bits .xor .u64 18446744073709551615 (IntKind.u64.wrap (wrap64 (-(wrap64 (a0+1)))))) t121).bind fun t134=>(if r.length+t134.length<140737488355328 then(some (r++t134))else(none))))else(none))))
theorem bN.mono:∀a0 k,LeO (bN.f k a0) (bN.f (k+1) a0):=by
 intro a0 k;unfold bN.f
 repeat' first|(with_reducible exact aK.mono _ _ _)|(with_reducible exact a7.mono _ _)|(with_reducible exact LeO.refl _)|(with_reducible exact LeO.none _)|(with_reducible refine LeO.ite ?_ ?_)|(with_reducible refine LeO.bind ?_ (fun _=>?_))|exact aK.mono _ _ _|exact a7.mono _ _|exact LeO.none _|refine LeO.ite ?_ ?_|refine LeO.bind ?_ (fun _=>?_)
set_option maxHeartbeats 8000000 in
set_option maxRecDepth 100000 in
theorem bN.calls(k:Nat)(a0:Int)(r:List Int)(w:World)(h:bN.f k a0=some r):
 Calls Tryz.prog 116 #[.int .i64 a0] w fun e w'=>∃v0_:Value,e= .returned (v0_)∧Kd.R (Kd.int .u8) 5 w' w.heap.size (fun _=>True) v0_ r∧Below w.heap.size w w':=by
 have q:=aa.mk (rr w.heap.size w);have H:(if a0≥0 then((a7.f k (IntKind.u64.wrap (a0))).bind fun t111=>(if([]:List Int).length<140737488355328 then((some (([]:List Int)++ [(wrap64 (128+t111))%256]:List Int)).bind fun J=>((aK.f k (IntKind.u64.wrap (a0)) t111).bind fun t115=>(if J.length+t115.length<140737488355328 then(some (J++t115))else(none))))else(none)))else((a7.f k (IntKind.u64.wrap (wrap64 (-(wrap64 (a0+1)))))).bind fun t121=>(if t121=0 then(if([]:List Int).length<140737488355328 then((some (([]:List Int)++ [128-1]:List Int)).bind fun G=>((aK.f k (Go.bits .xor .u64 18446744073709551615 (IntKind.u64.wrap (wrap64 (-(wrap64 (a0+1)))))) 1).bind fun t125=>(if G.length+t125.length<140737488355328 then(some (G++t125))else(none))))else(none))else(if([]:List Int).length<140737488355328 then((some (([]:List Int)++ [(wrap64 (128-t121))%256]:List Int)).bind fun U=>((aK.f k (Go.bits .xor .u64 18446744073709551615 (IntKind.u64.wrap (wrap64 (-(wrap64 (a0+1)))))) t121).bind fun t134=>(if U.length+t134.length<140737488355328 then(some (U++t134))else(none))))else(none)))))=some r:=h;clear h;by_cases c2:a0≥0
 ·rw [rp c2]at H
  have c2b0:decide (0≤a0)=true:=ru c2;clear c2;replace H:=rB.mp H;obtain⟨t111,A30,H⟩:=H;replace H:(if([]:List Int).length<140737488355328 then((some (([]:List Int)++ [(wrap64 (128+t111))%256]:List Int)).bind fun J=>((aK.f k (IntKind.u64.wrap (a0)) t111).bind fun t115=>(if J.length+t115.length<140737488355328 then(some (J++t115))else(none))))else(none))=some r:=H;have A3:=aa.mk A30;clear A30;by_cases c4:([]:List Int).length<140737488355328
  ·rw [rp c4]at H
   have LMc4:=aa.mk c4;clear c4;obtain⟨J,hy112⟩:∃Y:List Int,Y=(([]:List Int)++ [(wrap64 (128+t111))%256]):=⟨_,rfl⟩;replace H:((aK.f k (IntKind.u64.wrap (a0)) t111).bind fun t115=>(if J.length+t115.length<140737488355328 then(some (J++t115))else(none)))=some r:=by(have Z:=(rG _ _).symm.trans H;rw [hy112];with_reducible exact Z)
   have Ny112:=aa.mk hy112;clear hy112;replace H:=rB.mp H;obtain⟨t115,A50,H⟩:=H;replace H:(if J.length+t115.length<140737488355328 then(some (J++t115))else(none))=some r:=H;have A5:=aa.mk A50;clear A50;by_cases c6:J.length+t115.length<140737488355328
   ·rw [rp c6]at H
    have LMc6:=aa.mk c6;clear c6;obtain⟨y118,hy118⟩:∃Y:List Int,Y=(J++t115):=⟨_,rfl⟩;replace H:(some y118)=some r:=by(rw [hy118];with_reducible exact H)
    have Ny118:=aa.mk hy118;clear hy118;obtain rfl:=rD H;go_enter Tryz.func116,Tryz.ntmps116;go_wp2_with (first|(go_at_call 146;(with_reducible refine(a7.calls k (IntKind.u64.wrap (a0)) t111 _ A3.out).mono ?_);rintro e w' ⟨rfl,⟨nd,rfl⟩⟩)|((with_reducible refine aZ (b:= .append) (xs:= #[.tmp 12, .tmp 16]) rfl ?_);at_builtin;refine Kd.R_append (Kd.int .u8) (w0:=w) w.heap.size rfl (.tmp 12) (.tmp 16) 66 5 (.int .u8 0) 1 rfl Tryz.underlying66 b8 rfl (by decide) (by omega) (.slice none 0 0) ([]:List Int) ((wrap64 (128+t111))%256) [.int .u8 ((wrap64 (128+t111))%256)] (fun _=>True) (fun _=>False) rfl rfl ?aP (fun _ z=>z.elim) ?aF ?aO ?aB ?aS ?aL ?_;(case aP=>exact rfl);(case aB=>exact(by repeat((with_reducible first|exact q.out|apply aq))));(case aF=>exact(fun _ _=>trivial));(case aO=>exact((Kd.R_nil _ _ _ _ (fun _=>True))));(case aS=>exact(ay (by repeat((with_reducible first|exact q.out|apply aq)))));(case aL=>have:=LMc4.out;omega);intro v113 w7 ho y hg D;rw [←Ny112.out]at ho;replace q:=aa.mk (y);have am:=aa.mk (ho);clear ho y hg D)|(go_at_call 147;(with_reducible refine(aK.calls k (IntKind.u64.wrap (a0)) t111 t115 _ A5.out).mono ?_);rintro e w8 ⟨v116,rfl,V,y⟩;have ap:=aa.mk (Kd.R_lower (Kd.R_new' V (Kd.R_lt am.out)) (ay q.out));replace am:=aa.mk (Kd.R_elder' am.out (Kd.R_base V) y);replace q:=aa.mk (bn q.out y);(try clear y);(try clear V);obtain⟨Ao10,co10,eo10⟩:=Kd.R_slice ap.out;subst eo10)|((with_reducible refine aZ (b:= .append) (xs:= #[.tmp 18, .tmp 22]) rfl ?_);at_builtin;refine Kd.R_append_rows (Kd.int .u8) (w0:=w) w.heap.size rfl (.tmp 18) (.tmp 22) 66 5 (.int .u8 0) 1 rfl Tryz.underlying66 b8 rfl (by decide) (by omega) v113 J t115 _ _ _ (fun X=>some X≠(.slice Ao10 t115.length co10:Value).ownBlock) (fun _=>False) rfl rfl ?aO ?aR (fun _ _ h=>h) (fun _ h=>h.elim) ?aF ?aB ?aS ?aL ?_;(case aR=>repeat(exact(Kd.R_reads' ap.out).2.2));(case aB=>exact q.out);(case aF=>exact(fun X z=>Kd.fresh' (Kd.R_lt ap.out) X z));(case aO=>exact(by exact Kd.R_mono am.out (fun _ z=>z.2)));(case aS=>exact(ay q.out));(case aL=>have:=LMc6.out;omega);intro v119 w9 ho y hg D;rw [←Ny118.out]at ho;replace ap:=aa.mk (Kd.R_after (ok:=(fun _=>True)) ap.out hg D);replace q:=aa.mk (y);have HO120:=aa.mk (ho);clear am;clear ho y hg D));go_ret;exact⟨_,by rfl,by exact Kd.R_mono HO120.out (fun _ z=>trivial),by exact q.out⟩
   ·rw [rq c6]at H
    exact absurd H (by simp)
  ·rw [if_neg c4]at H
   exact absurd H (by simp)
 ·rw [if_neg c2]at H
  have c2b0:decide (0≤a0)=false:=rC c2;clear c2;replace H:=rB.mp H;obtain⟨t121,A110,H⟩:=H;replace H:(if t121=0 then(if([]:List Int).length<140737488355328 then((some (([]:List Int)++ [128-1]:List Int)).bind fun G=>((aK.f k (Go.bits .xor .u64 18446744073709551615 (IntKind.u64.wrap (wrap64 (-(wrap64 (a0+1)))))) 1).bind fun t125=>(if G.length+t125.length<140737488355328 then(some (G++t125))else(none))))else(none))else(if([]:List Int).length<140737488355328 then((some (([]:List Int)++ [(wrap64 (128-t121))%256]:List Int)).bind fun U=>((aK.f k (Go.bits .xor .u64 18446744073709551615 (IntKind.u64.wrap (wrap64 (-(wrap64 (a0+1)))))) t121).bind fun t134=>(if U.length+t134.length<140737488355328 then(some (U++t134))else(none))))else(none)))=some r:=H;have A11:=aa.mk A110;clear A110;by_cases be:t121=0
  ·rw [rp be]at H
   have c12b0:(t121==0)=true:=rI.mpr be;clear be;by_cases c13:([]:List Int).length<140737488355328
   ·rw [rp c13]at H
    have LMc13:=aa.mk c13;clear c13;obtain⟨G,hy122⟩:∃Y:List Int,Y=(([]:List Int)++ [128-1]):=⟨_,rfl⟩;replace H:((aK.f k (Go.bits .xor .u64 18446744073709551615 (IntKind.u64.wrap (wrap64 (-(wrap64 (a0+1)))))) 1).bind fun t125=>(if G.length+t125.length<140737488355328 then(some (G++t125))else(none)))=some r:=by(have Z:=(rG _ _).symm.trans H;rw [hy122];with_reducible exact Z)
    have Ny122:=aa.mk hy122;clear hy122;replace H:=rB.mp H;obtain⟨t125,A140,H⟩:=H;replace H:(if G.length+t125.length<140737488355328 then(some (G++t125))else(none))=some r:=H;have A14:=aa.mk A140;clear A140;by_cases c15:G.length+t125.length<140737488355328
    ·rw [rp c15]at H
     have LMc15:=aa.mk c15;clear c15;obtain⟨y128,hy128⟩:∃Y:List Int,Y=(G++t125):=⟨_,rfl⟩;replace H:(some y128)=some r:=by(rw [hy128];with_reducible exact H)
     have Ny128:=aa.mk hy128;clear hy128;obtain rfl:=rD H;go_enter Tryz.func116,Tryz.ntmps116;go_wp2_with (first|((with_reducible refine cF (f:=146) rfl ?_);refine ee (some 29) rfl rfl Tryz.func146 (by kernel_rfl) rfl #[.int .u64 (IntKind.u64.wrap (wrap64 (-(wrap64 (a0+1)))))] rfl (by(try simp only [List.map_toArray,List.map_cons,List.map_nil]);rfl) ?_;(with_reducible refine(a7.calls k (IntKind.u64.wrap (wrap64 (-(wrap64 (a0+1))))) t121 _ A11.out).mono ?_);rintro e w' ⟨rfl,⟨nd,rfl⟩⟩;refine⟨_,rfl,?_⟩)|((with_reducible refine aZ (b:= .append) (xs:= #[.tmp 32, .tmp 36]) rfl ?_);at_builtin;refine Kd.R_append (Kd.int .u8) (w0:=w) w.heap.size rfl (.tmp 32) (.tmp 36) 66 5 (.int .u8 0) 1 rfl Tryz.underlying66 b8 rfl (by decide) (by omega) (.slice none 0 0) ([]:List Int) 127 [.int .u8 127] (fun _=>True) (fun _=>False) rfl rfl ?aP (fun _ z=>z.elim) ?aF ?aO ?aB ?aS ?aL ?_;(case aP=>exact rfl);(case aB=>exact(by repeat((with_reducible first|exact q.out|apply aq))));(case aF=>exact(fun _ _=>trivial));(case aO=>exact((Kd.R_nil _ _ _ _ (fun _=>True))));(case aS=>exact(ay (by repeat((with_reducible first|exact q.out|apply aq)))));(case aL=>have:=LMc13.out;omega);intro v123 w16 ho y hg D;rw [show([]:List Int)++ [127]=G from by rw [Ny122.out];rfl]at ho;replace q:=aa.mk (y);have av:=aa.mk (ho);clear ho y hg D)|((with_reducible refine cF (f:=147) rfl ?_);refine ee (some 42) rfl rfl Tryz.func147 (by kernel_rfl) rfl #[.int .u64 (Go.bits .xor .u64 18446744073709551615 (IntKind.u64.wrap (wrap64 (-(wrap64 (a0+1)))))), .int .i64 1] rfl (by(try simp only [List.map_toArray,List.map_cons,List.map_nil]);rfl) ?_;(with_reducible refine(aK.calls k (Go.bits .xor .u64 18446744073709551615 (IntKind.u64.wrap (wrap64 (-(wrap64 (a0+1)))))) 1 t125 _ A14.out).mono ?_);rintro e w17 ⟨v126,rfl,V,y⟩;refine⟨_,rfl,?_⟩;have a1:=aa.mk (Kd.R_lower (Kd.R_new' V (Kd.R_lt av.out)) (ay q.out));replace av:=aa.mk (Kd.R_elder' av.out (Kd.R_base V) y);replace q:=aa.mk (bn q.out y);(try clear y);(try clear V);obtain⟨Ao19,co19,eo19⟩:=Kd.R_slice a1.out;subst eo19)|((with_reducible refine aZ (b:= .append) (xs:= #[.tmp 38, .tmp 42]) rfl ?_);at_builtin;refine Kd.R_append_rows (Kd.int .u8) (w0:=w) w.heap.size rfl (.tmp 38) (.tmp 42) 66 5 (.int .u8 0) 1 rfl Tryz.underlying66 b8 rfl (by decide) (by omega) v123 G t125 _ _ _ (fun X=>some X≠(.slice Ao19 t125.length co19:Value).ownBlock) (fun _=>False) rfl rfl ?aO ?aR (fun _ _ h=>h) (fun _ h=>h.elim) ?aF ?aB ?aS ?aL ?_;(case aR=>repeat(exact(Kd.R_reads' a1.out).2.2));(case aB=>exact q.out);(case aF=>exact(fun X z=>Kd.fresh' (Kd.R_lt a1.out) X z));(case aO=>exact(by exact Kd.R_mono av.out (fun _ z=>z.2)));(case aS=>exact(ay q.out));(case aL=>have:=LMc15.out;omega);intro v129 w18 ho y hg D;rw [←Ny128.out]at ho;replace a1:=aa.mk (Kd.R_after (ok:=(fun _=>True)) a1.out hg D);replace q:=aa.mk (y);have HO130:=aa.mk (ho);clear av;clear ho y hg D));go_ret;exact⟨_,by rfl,by exact Kd.R_mono HO130.out (fun _ z=>trivial),by exact q.out⟩
    ·rw [rq c15]at H
     exact absurd H (by simp)
   ·rw [if_neg c13]at H
    exact absurd H (by simp)
  ·rw [if_neg be]at H
   have c12b0:(t121==0)=false:=ry.mpr be;by_cases c20:([]:List Int).length<140737488355328
   ·rw [rp c20]at H
    have LMc20:=aa.mk c20;clear c20;obtain⟨U,hy131⟩:∃Y:List Int,Y=(([]:List Int)++ [(wrap64 (128-t121))%256]):=⟨_,rfl⟩;replace H:((aK.f k (Go.bits .xor .u64 18446744073709551615 (IntKind.u64.wrap (wrap64 (-(wrap64 (a0+1)))))) t121).bind fun t134=>(if U.length+t134.length<140737488355328 then(some (U++t134))else(none)))=some r:=by(have Z:=(rG _ _).symm.trans H;rw [hy131];with_reducible exact Z)
    have Ny131:=aa.mk hy131;clear hy131;replace H:=rB.mp H;obtain⟨t134,A210,H⟩:=H;replace H:(if U.length+t134.length<140737488355328 then(some (U++t134))else(none))=some r:=H;have A21:=aa.mk A210;clear A210;by_cases c22:U.length+t134.length<140737488355328
    ·rw [rp c22]at H
     have LMc22:=aa.mk c22;clear c22;obtain⟨y137,hy137⟩:∃Y:List Int,Y=(U++t134):=⟨_,rfl⟩;replace H:(some y137)=some r:=by(rw [hy137];with_reducible exact H)
     have Ny137:=aa.mk hy137;clear hy137;obtain rfl:=rD H;go_enter Tryz.func116,Tryz.ntmps116;go_wp2_with (first|((with_reducible refine cF (f:=146) rfl ?_);refine ee (some 29) rfl rfl Tryz.func146 (by kernel_rfl) rfl #[.int .u64 (IntKind.u64.wrap (wrap64 (-(wrap64 (a0+1)))))] rfl (by(try simp only [List.map_toArray,List.map_cons,List.map_nil]);rfl) ?_;(with_reducible refine(a7.calls k (IntKind.u64.wrap (wrap64 (-(wrap64 (a0+1))))) t121 _ A11.out).mono ?_);rintro e w' ⟨rfl,⟨nd,rfl⟩⟩;refine⟨_,rfl,?_⟩)|((with_reducible refine aZ (b:= .append) (xs:= #[.tmp 32, .tmp 36]) rfl ?_);at_builtin;refine Kd.R_append (Kd.int .u8) (w0:=w) w.heap.size rfl (.tmp 32) (.tmp 36) 66 5 (.int .u8 0) 1 rfl Tryz.underlying66 b8 rfl (by decide) (by omega) (.slice none 0 0) ([]:List Int) ((wrap64 (128-t121))%256) [.int .u8 ((wrap64 (128-t121))%256)] (fun _=>True) (fun _=>False) rfl rfl ?aP (fun _ z=>z.elim) ?aF ?aO ?aB ?aS ?aL ?_;(case aP=>exact rfl);(case aB=>exact(by repeat((with_reducible first|exact q.out|apply aq))));(case aF=>exact(fun _ _=>trivial));(case aO=>exact((Kd.R_nil _ _ _ _ (fun _=>True))));(case aS=>exact(ay (by repeat((with_reducible first|exact q.out|apply aq)))));(case aL=>have:=LMc20.out;omega);intro v132 w23 ho y hg D;rw [←Ny131.out]at ho;replace q:=aa.mk (y);have a2:=aa.mk (ho);clear ho y hg D)|((with_reducible refine cF (f:=147) rfl ?_);refine ee (some 42) rfl rfl Tryz.func147 (by kernel_rfl) rfl #[.int .u64 (Go.bits .xor .u64 18446744073709551615 (IntKind.u64.wrap (wrap64 (-(wrap64 (a0+1)))))), .int .i64 t121] rfl (by(try simp only [List.map_toArray,List.map_cons,List.map_nil]);rfl) ?_;(with_reducible refine(aK.calls k (Go.bits .xor .u64 18446744073709551615 (IntKind.u64.wrap (wrap64 (-(wrap64 (a0+1)))))) t121 t134 _ A21.out).mono ?_);rintro e w24 ⟨v135,rfl,V,y⟩;refine⟨_,rfl,?_⟩;have a6:=aa.mk (Kd.R_lower (Kd.R_new' V (Kd.R_lt a2.out)) (ay q.out));replace a2:=aa.mk (Kd.R_elder' a2.out (Kd.R_base V) y);replace q:=aa.mk (bn q.out y);(try clear y);(try clear V);obtain⟨Ao26,co26,eo26⟩:=Kd.R_slice a6.out;subst eo26)|((with_reducible refine aZ (b:= .append) (xs:= #[.tmp 38, .tmp 42]) rfl ?_);at_builtin;refine Kd.R_append_rows (Kd.int .u8) (w0:=w) w.heap.size rfl (.tmp 38) (.tmp 42) 66 5 (.int .u8 0) 1 rfl Tryz.underlying66 b8 rfl (by decide) (by omega) v132 U t134 _ _ _ (fun X=>some X≠(.slice Ao26 t134.length co26:Value).ownBlock) (fun _=>False) rfl rfl ?aO ?aR (fun _ _ h=>h) (fun _ h=>h.elim) ?aF ?aB ?aS ?aL ?_;(case aR=>repeat(exact(Kd.R_reads' a6.out).2.2));(case aB=>exact q.out);(case aF=>exact(fun X z=>Kd.fresh' (Kd.R_lt a6.out) X z));(case aO=>exact(by exact Kd.R_mono a2.out (fun _ z=>z.2)));(case aS=>exact(ay q.out));(case aL=>have:=LMc22.out;omega);intro v138 w25 ho y hg D;rw [←Ny137.out]at ho;replace a6:=aa.mk (Kd.R_after (ok:=(fun _=>True)) a6.out hg D);replace q:=aa.mk (y);have HO139:=aa.mk (ho);clear a2;clear ho y hg D));go_ret;exact⟨_,by rfl,by exact Kd.R_mono HO139.out (fun _ z=>trivial),by exact q.out⟩
    ·rw [rq c22]at H
     exact absurd H (by simp)
   ·rw [if_neg c20]at H
    exact absurd H (by simp)
def cA.f(k:Nat)(a0:ByteArray):Option (ByteArray):=(bo.f k (IntKind.u64.wrap ((a0.size:Int)))).bind fun t146=>(if t146.size+a0.size≤9223372036854775807 then(some (t146++a0))else(none))
set_option maxHeartbeats 8000000 in
set_option maxRecDepth 100000 in
theorem cA.calls(k:Nat)(a0:ByteArray)(r:ByteArray)(w:World)(h:cA.f k a0=some r):
 Calls Tryz.prog 30 #[.string a0] w fun e D=>e= .returned (.string r)∧Below w.heap.size w D:=by
 have y:=aa.mk (rr w.heap.size w);have H:((bo.f k (IntKind.u64.wrap ((a0.size:Int)))).bind fun t146=>(if t146.size+a0.size≤9223372036854775807 then(some (t146++a0))else(none)))=some r:=h;clear h;replace H:=rB.mp H;obtain⟨t146,q,H⟩:=H;replace H:(if t146.size+a0.size≤9223372036854775807 then(some (t146++a0))else(none))=some r:=H;by_cases c3:t146.size+a0.size≤9223372036854775807
 ·rw [rp c3]at H
  rw [IntWalk.u64_in (a0.size:Int) (by omega)]at q;have A2:=aa.mk q;clear q;try have G:(9223372036854775807<t146.size+a0.size)=False:=eq_false (Nat.not_lt.2 c3)
  obtain rfl:=rD H;go_enter Tryz.func30,Tryz.ntmps30;go_wp2_with ((go_at_call 29;(with_reducible refine(bo.calls k (a0.size:Int) t146 _ A2.out).mono ?_);rintro e J ⟨rfl,z⟩;replace y:=aa.mk (bn y.out z);(try clear z)));go_ret;exact⟨by rfl,by exact y.out⟩
 ·rw [rq c3]at H
  exact absurd H (by simp)
end Go.Proofs.YtiphlfpainoeiaaGreatDoor.L
namespace Go.Proofs.YtiphlfpainoeiaaGreatDoor
open Go.RowKit Go.Proofs.YtiphlfpainoeiaaGreatDoorW.PrintWords
abbrev IsB(B b:Nat)(l:List UInt8)(w:World):Prop:=Lib.IsBuilderF 68 5 B b (Lib.byteCells l) w
theorem e9{w w1:World}{B e n:Nat}{v:Value}{xs:List Value}(h:w.ownsRowF B e 1 v n xs)(y:Below w.heap.size w w1):w1.ownsRowF B e 1 v n xs:=by
 refine⟨h.1,?_⟩;rcases h.2 with hn|⟨g,cap,q,r,D,z,hg,rest⟩;·exact .inl hn
 ·exact .inr ⟨g,cap,q,r,D,z,aQ hg y,rest⟩
theorem IsB.below{B b:Nat}{l:List UInt8}{w w1:World}(h:IsB B b l w)(q:Below w.heap.size w w1):IsB B b l w1:=by
 rcases h with h|h
 ·obtain⟨hB,v,r,z,y⟩:=h
  exact .inl ⟨hB,v,aQ r q,e9 z q,y⟩
 ·obtain⟨hB,v,r,z,y⟩:=h
  exact .inr ⟨hB,v,aQ r q,e9 z q,y⟩
theorem IsB.start(w:World){B:Nat}(hB:B≤w.heap.size):IsB B w.heap.size [] (w.alloc (.cells #[.pointer none, .slice none 0 0] 68)):=
 .inl ⟨hB, .slice none 0 0,rP w _,World.ownsRowF_nil _ _ _ _,by simp [Value.ownBlock]⟩
theorem dF(l:List UInt8):(Lib.byteCells l).length=l.length:=by simp [Lib.byteCells]
theorem jj{B b:Nat}{l:List UInt8}(m:List UInt8){s:ByteArray}{w:World}(h:IsB B b l w)(r:s=⟨m.toArray⟩)(J:l.length+m.length≤140737488355328)(G:B≤w.heap.size):
 Calls Tryz.prog 28 #[.pointer (some ⟨b,0,none⟩), .string s] w fun e q=>e= .returned (.tuple #[.int .i64 s.size, .nilIface])∧(IsB B b (l++m) q∧Below B w q∧Lib.OthersKept 5 (some b) w q):=by
 refine(Any.Builder_WriteString_k {Tryz.lays155 with} Tryz.Builder_Extra_155 B b _ s w h (by rw [dF];subst r;simpa [ByteArray.size]using J) G).mono ?_;rintro e q ⟨rfl,h1,z,D⟩;refine⟨rfl, .inr ?_,z,D⟩;have y:Lib.byteCells (l++m)=Lib.byteCells l++Lib.strCells s:=by subst r;simp [Lib.byteCells,Lib.strCells]
 rw [y];exact h1
theorem nY{B b:Nat}{l:List UInt8}(c:UInt8)(n:Int){w:World}(hn:(c.toNat:Int)=n)(h:IsB B b l w)(G:l.length+1≤140737488355328)(D:B≤w.heap.size):
 Calls Tryz.prog 31 #[.pointer (some ⟨b,0,none⟩), .int .u8 n] w fun e q=>e= .returned .nilIface∧(IsB B b (l++ [c]) q∧Below B w q∧Lib.OthersKept 5 (some b) w q):=by
 subst hn;refine(Any.Builder_WriteByte_k Tryz.lays167 Tryz.Builder_Extra_167 B b _ (c.toNat:Int) w h (by rw [dF];exact G) D).mono ?_;rintro e q ⟨rfl,h1,y,z⟩;refine⟨rfl, .inr ?_,y,z⟩;have r:Lib.byteCells (l++ [c])=Lib.byteCells l++ [.int .u8 c.toNat]:=by simp [Lib.byteCells]
 rw [r];exact h1
theorem rl{B b:Nat}{l:List UInt8}{w:World}(h:IsB B b l w)(r:B≤w.heap.size):
 Calls Tryz.prog 33 #[.pointer (some ⟨b,0,none⟩)] w fun e y=>e= .returned (.string ⟨l.toArray⟩)∧Below B w y:=
 (Any.Builder_String_any_k Tryz.lays169 Tryz.Builder_Extra_169 B b l w h r).mono fun _ _ ⟨h1,_,q,_⟩=>⟨h1,q⟩
theorem eT{b g:Nat}{cs:Array Value}{t:TypeId}{w q:World}(h:Lib.OthersKept 5 (some b) w q)(hg:w.heap[g]? =some (.cells cs t (0,0)))(r:g≠b)(y:t≠5):q.heap[g]? =some (.cells cs t (0,0)):=
 h g _ hg (fun e=>r (rD e)) (fun c z e=>by cases e;exact y rfl)
theorem IsB.on{B b:Nat}{l:List UInt8}{w w1:World}(q:Below w.heap.size w w1)(h:IsB B b l w):IsB B b l w1:=h.below q
theorem cX{w w1:World}{g:Nat}{o:Obj}(q:Below w.heap.size w w1)(h:w.heap[g]? =some o):w1.heap[g]? =some o:=aQ h q
theorem dc{B:Nat}{a W q:World}(h:Below B a W)(h1:q.heap=W.heap)(r:q.os=W.os)(y:q.tape=W.tape)(z:q.output=W.output):Below B a q:=
 ⟨r.trans h.os,y.trans h.tape,z.trans h.output,by rw [h1];exact h.size,fun i hi=>by rw [h1];exact h.block i hi⟩
theorem dH{a q W w1:World}(D:Below W.heap.size W w1)(h:Below a.heap.size a q)(h1:W.heap=q.heap)(r:W.os=q.os)(y:W.tape=q.tape)(z:W.output=q.output):Below a.heap.size a w1:=
 an (dc h h1 r y z) D
theorem fv{B:Nat}{a q W w1:World}(D:Below B W w1)(h:Below B a q)(h1:W.heap=q.heap)(r:W.os=q.os)(y:W.tape=q.tape)(z:W.output=q.output):Below B a w1:=
 (dc h h1 r y z).trans D
theorem Cs{α:Type}{r:Kd α}{w W:World}{A:Option Addr}{n:Nat}{xs:List α}(h:Kd.C r w A n xs){q:World}(G:Below w.heap.size w q)(h1:W.heap=q.heap)(y:W.os=q.os)(z:W.tape=q.tape)(D:W.output=q.output):Kd.C r W A n xs:=
 Kd.C_below h (dc G h1 y z D)
theorem de(l:List UInt8):(⟨l.toArray⟩:ByteArray).size=l.length:=by show l.toArray.size=_;simp
theorem jL(s:ByteArray):s.data.toList.length=s.size:=by rw [Array.length_toList];rfl
end Go.Proofs.YtiphlfpainoeiaaGreatDoor
namespace Go.Proofs.YtiphlfpainoeiaaGreatDoor
open Go.RowKit Go.Proofs.YtiphlfpainoeiaaGreatDoorW.PrintWords L
open Go.Maps (Keyed setOf string_keyed)
open Go.WideMaps (keyOf_string_mk)
def fg(l:List S48)(j:Nat):Bool:=(l.take j).any fun t=>t.f0.toList==(l.getD j z48).f0.toList
def jb(l:List S48):Bool:=(List.range l.length).any (fg l)
def da(l:List S48):Int:=if l.length<1∨64<l.length then 206 else if cn (fun i=>bh (l.getD i z48)) l.length≠0 then cn (fun i=>bh (l.getD i z48)) l.length else if jb l=true then 206 else 0
theorem jn(nm:ByteArray)(A1 A2 A3 A4:Option Addr)(c1 c2 c3 c4:Nat)(t1:List S86)(t2:List Int)(t3:List S88)(t4:List S90)(r:Int)(w:World)(q:GT w)
 (J:k86.C w A1 t1.length t1)(U:(Kd.int .i64).C w A2 t2.length t2)(V:k88.C w A3 t3.length t3)(X:k90.C w A4 t4.length t4)(y:t1.length≤c1)(z:t2.length≤c2)(D:t3.length≤c3)(G:t4.length≤c4)
 (Y:df ⟨nm,t1,t2,t3,t4⟩)(h:bh ⟨nm,t1,t2,t3,t4⟩=r):
 Calls Tryz.prog 67 #[.agg #[.string nm, .slice A1 t1.length c1, .slice A2 t2.length c2, .slice A3 t3.length c3, .slice A4 t4.length c4]] w fun e Z=>e= .returned (.int .i64 r)∧Below w.heap.size w Z:=by
 subst h;exact kc nm A1 A2 A3 A4 c1 c2 c3 c4 t1 t2 t3 t4 w q J U V X y z D G Y
theorem fM{P:Program}{e:TypeId}(q:P.underlying e=some .bool){v:Value}{z:DataW Unit×List MemPlace}(h:plainElem P e v=some z):∃x,v= .bool x∧z=(.lit (.bool x),[]):=by
 unfold plainElem at h;rw [q]at h;cases v<;>simp at h
 exact⟨_,rfl,h.symm⟩
theorem ej(w:World){ops:Array Oper}{rest:List Oper}{o:Oper}{a:Act}{Q:Exit→Act→World→Prop}
 (hg:o.guard=none)(m x:Operand)(J:o.op=Op.lookup 152 m x false)(b n:Nat)(D:DataW Unit)
 (G:a.eval m= .map (some b))(U:w.ownsMap Tryz.prog 9 (plainElem Tryz.prog 4) b n D)(key:Value)(h:Lit)(Y:a.eval x=key)(z:keyOf Tryz.prog 9 key=some h)(c:Bool)(y:D.atKey h (.lit (.bool false))= .lit (.bool c))
 (q:wpList Tryz.prog ops Q rest (a.put o.dst (.bool c)) w):wpList Tryz.prog ops Q (o::rest) a w:=by
 refine wpList_plain hg fun Z r=>?_
 obtain⟨v,ps,V,X⟩:=U.lookup (string_keyed Tryz.underlying9) Tryz.underlying152 (Tryz.zeroValue4 w) (plainElem_bool Tryz.underlying4 false) z;obtain⟨d,rfl,hd⟩:=fM Tryz.underlying4 X;rw [y]at hd;simp only [Prod.mk.injEq,DataW.lit.injEq,Lit.bool.injEq]at hd;obtain⟨rfl,_⟩:=hd;unfold Oper.wp;simp [execOp,J,G,Y,V,Result.andThen];exact r _ _ q
abbrev nmK(s:ByteArray):Lit:= .string s.data.toList
abbrev tru:DataW Unit:= .lit (.bool true)
abbrev jB(h:List ByteArray):DataW Unit:=setOf tru (h.map nmK)
theorem iI(h:List ByteArray)(s:ByteArray):jB (h++ [s])=(jB h).put (nmK s) tru:=by simp [jB,Go.Maps.setOf_snoc]
theorem kG(q:List ByteArray):Go.Maps.IsMap (jB q):=(Go.Maps.tidy_setOf tru _ (fun x h=>by obtain⟨s,_,rfl⟩:=List.mem_map.1 h;trivial)).isMap
theorem kV(s:ByteArray)(n:Nat):∀r:List ByteArray,r.length=n→(jB r).atKey (nmK s) (.lit (.bool false))= .lit (.bool (r.any fun t=>t.toList==s.toList)):=by
 induction n with
 |zero=>intro r h;rw [r7 h];rfl
 |succ n D=>
  intro r h;obtain⟨x,y,rfl⟩:∃x y,r=x++ [y]:=by
   refine⟨r.dropLast,r.getLast (by intro e;rw [e]at h;cases h),(List.dropLast_concat_getLast _).symm⟩
  rw [iI,se];by_cases e:y=s
  ·subst e
   rw [Go.Maps.atKey_put_same (kG x) (by trivial)];simp
  ·have z:nmK s≠nmK y:=by
    intro q;apply e;have:s.data.toList=y.data.toList:=(by injection q);apply sG;exact(Array.toList_inj.1 this).symm
   rw [Go.Maps.atKey_put_other z,D x (by simpa using h)];have:(y.toList==s.toList)=false:=by
    rw [ry];intro q;apply e;rw [sk,sk]at q;apply sG;exact Array.toList_inj.1 q
   simp [this]
set_option maxHeartbeats 4000000 in
set_option maxRecDepth 100000 in
theorem iO(A0:Option Addr)(c0:Nat)(l0:List S48)(r:Int)(w:World)(hr0:Kd.C k48 w A0 l0.length l0)(hc0:l0.length≤c0)(hG:GT w)(hok:∀t∈l0,df t)(h:da l0=r):
 Calls Tryz.prog 45 #[.slice A0 l0.length c0] w fun e w'=>e= .returned (.int .i64 r)∧Below w.heap.size w w':=by
 have hm0:=Kd.C_max hr0;have HR0:=rn hr0;have HG:=rn hG;have HO:=rn hok;have HE:=rn h;clear hr0 hG hok h;have hu48:=Tryz.underlying48;have hmm:= @run_makeMap Tryz.prog;by_cases s1:l0.length<1
 ·have hd1:decide ((l0.length:Int)<1)=true:=ru (by omega)
  have D:=rn (show r=206 from by rw [←HE.out,da,rp (.inl s1)]);go_enter Tryz.func45,Tryz.ntmps45;go_wp2;go_ret;exact⟨by rw [D.out];rfl,rr _ _⟩
 have hd1:decide ((l0.length:Int)<1)=false:=rC (by omega);by_cases s2:64<l0.length
 ·have hd2:decide ((64:Int)<(l0.length:Int))=true:=ru (by omega)
  have hd2':decide (64<l0.length)=true:=ru (by omega);have D:=rn (show r=206 from by rw [←HE.out,da,rp (.inr s2)]);go_enter Tryz.func45,Tryz.ntmps45;go_wp2;go_ret;exact⟨by rw [D.out];rfl,rr _ _⟩
 have hd2:decide ((64:Int)<(l0.length:Int))=false:=rC (by omega);have hd2':decide (64<l0.length)=false:=rC (by omega);have HE1:=rn (show(if cn (fun i=>bh (l0.getD i z48)) l0.length≠0 then cn (fun i=>bh (l0.getD i z48)) l0.length else if jb l0=true then 206 else 0)=r from by rw [←HE.out,da,rq (show¬(l0.length<1∨64<l0.length)from by omega)]);clear HE;go_enter Tryz.func45,Tryz.ntmps45;go_wp2;go_loopw [19] (fun i wr=>∃k:Nat,k≤l0.length∧i= .int .i64 k∧Hid (e7 (fun i=>bh (l0.getD i z48)) k=true)∧Hid (Below w.heap.size w wr)) (fun i _=>l0.length-(intOf i).toNat);case atStart=>exact⟨0,rR _,rfl,rn (dG _),rn (rr _ _)⟩
 case round=>
  obtain⟨Z,rfl⟩:∃Z:World,Z=wr:=⟨_,rfl⟩;obtain⟨k,hk,rfl,U,z⟩:=hrel;by_cases q:k<l0.length
  ·obtain⟨ad,A1,c1,A2,c2,A3,c3,A4,c4,rfl,b0,b1,b2,b3,b4,e1,g1,e2,g2,e3,g3,e4,g4⟩:=mv (Kd.C_below HR0.out z.out) k q
   have y:l0.getD k z48=l0[k]:=(by simp [List.getD_eq_getElem?_getD,List.getElem?_eq_getElem q]);have hok:=HO.out _ (rL q);have HG1:=rn g1;have HG2:=rn g2;have HG3:=rn g3;have HG4:=rn g4;have HOK:=rn hok;clear g1 g2 g3 g4 hok;obtain⟨V,Y⟩:∃V,bh l0[k]=V:=⟨_,rfl⟩;have HCE:=rn Y;have G:=rn (ai z.out (.cells #[.string l0[k].f0, .slice A1 l0[k].f1.length c1, .slice A2 l0[k].f2.length c2, .slice A3 l0[k].f3.length c3, .slice A4 l0[k].f4.length c4] 48));have J:=rn (ai (rr Z.heap.size Z) (.cells #[.string l0[k].f0, .slice A1 l0[k].f1.length c1, .slice A2 l0[k].f2.length c2, .slice A3 l0[k].f3.length c3, .slice A4 l0[k].f4.length c4] 48));by_cases hce0:V=0
   ·have HS:=rn (cO _ _ U.out (show bh (l0.getD k z48)=0 from by rw [y,Y,hce0]))
    subst hce0;clear Y y;go_wp2_with (go_at_call 67;refine(jn _ _ _ _ _ _ _ _ _ l0[k].f1 l0[k].f2 l0[k].f3 l0[k].f4 0 _ (HG.out.now G.out) (Kd.C_below HG1.out J.out) (Kd.C_below HG2.out J.out) (Kd.C_below HG3.out J.out) (Kd.C_below HG4.out J.out) e1 e2 e3 e4 HOK.out HCE.out).mono ?_;rintro e w1 ⟨rfl,hb1⟩;have HB1:=rn (an G.out hb1);clear hb1);go_roundw;case rel=>exact⟨k+1,by omega,by go_num,HS,HB1⟩
    case measure=>simp [intOf];omega
   ·have hd5:(V !=0)=true:=by rw [rH];exact hce0
    have D:=rn (show r=V from by
     have hf:=bO (fun i=>bh (l0.getD i z48)) l0.length k q U.out (by show bh (l0.getD k z48)≠0;rw [y,Y];exact hce0);rw [←HE1.out,hf,rp (by show bh (l0.getD k z48)≠0;rw [y,Y];exact hce0)];show bh (l0.getD k z48)=V;rw [y,Y])
    clear Y y;go_wp2_with (go_at_call 67;refine(jn _ _ _ _ _ _ _ _ _ l0[k].f1 l0[k].f2 l0[k].f3 l0[k].f4 V _ (HG.out.now G.out) (Kd.C_below HG1.out J.out) (Kd.C_below HG2.out J.out) (Kd.C_below HG3.out J.out) (Kd.C_below HG4.out J.out) e1 e2 e3 e4 HOK.out HCE.out).mono ?_;rintro e w1 ⟨rfl,hb1⟩;have HB1:=rn (an G.out hb1);clear hb1);go_ret;exact⟨by rw [D.out];rfl,HB1.out⟩
  ·have hkl:k=l0.length:=by omega
   subst hkl;have HE2:=rn (show(if jb l0=true then 206 else 0)=r from by
    have:=HE1.out;rw [dE _ _ U.out]at this;simpa using this)
   clear HE1 U;have HBM:=rn (ai z.out (.map #[] 0));have HM:=rn (World.ownsMap_made Z Tryz.prog 9 (plainElem (H:=Unit) Tryz.prog 4));have hmz:w.heap.size≤Z.heap.size:=z.out.size;obtain⟨mb,hmb⟩:∃mb,Z.heap.size=mb:=⟨_,rfl⟩;rw [hmb]at HM hmz;go_wp2;clear hmb;go_loopw [32] (fun i wr=>∃k:Nat,k≤l0.length∧i= .int .i64 k∧Hid ((List.range k).any (fg l0)=false)∧Hid (wr.ownsMap Tryz.prog 9 (plainElem Tryz.prog 4) mb k (jB ((l0.take k).map S48.f0)))∧Hid (Below w.heap.size w wr)) (fun i _=>l0.length-(intOf i).toNat);case atStart=>exact⟨0,rR _,rfl,rn rfl,HM,HBM⟩
   case round=>
    clear HM HBM z;obtain⟨wp,rfl⟩:∃wp:World,wp=wr:=⟨_,rfl⟩;obtain⟨k,hk,rfl,U,HM,z⟩:=hrel;by_cases q:k<l0.length
    ·obtain⟨ad,A1,c1,A2,c2,A3,c3,A4,c4,rfl,b0,b1,b2,b3,b4,e1,g1,e2,g2,e3,g3,e4,g4⟩:=mv (Kd.C_below HR0.out z.out) k q
     have y:l0.getD k z48=l0[k]:=(by simp [List.getD_eq_getElem?_getD,List.getElem?_eq_getElem q]);have hnm:l0[k].f0.size≤maxLen:=(HO.out _ (rL q)).name;have hkey:=keyOf_string_mk (P:=Tryz.prog) Tryz.underlying9 hnm;have HK:=rn hkey;clear g1 g2 g3 g4 hkey;have X:=kV l0[k].f0 _ ((l0.take k).map S48.f0) rfl;have hdd:fg l0 k=((l0.take k).map S48.f0).any (fun t=>t.toList==l0[k].f0.toList):=(by rw [fg,y,List.any_map];rfl);rw [←hdd]at X;have HMA:=rn (HM.out.alloc (.cells #[.string l0[k].f0, .slice A1 l0[k].f1.length c1, .slice A2 l0[k].f2.length c2, .slice A3 l0[k].f3.length c3, .slice A4 l0[k].f4.length c4] 48));have G:=rn (ai z.out (.cells #[.string l0[k].f0, .slice A1 l0[k].f1.length c1, .slice A2 l0[k].f2.length c2, .slice A3 l0[k].f3.length c3, .slice A4 l0[k].f4.length c4] 48));cases am:fg l0 k with
     |true=>
      rw [am]at X;have HAT:=rn X;have D:=rn (show r=206 from by rw [←HE2.out,rp (by rw [jb,sb];exact⟨k,List.mem_range.2 q,am⟩)]);clear X hdd am y;go_wp2_with (at_lookup;refine ej _ rfl _ _ rfl mb k _ rfl HMA.out _ _ rfl HK.out true HAT.out ?_);go_ret;exact⟨by rw [D.out];rfl,G.out⟩
     |false=>
      rw [am]at X;have HAT:=rn X;have HZ2:=rn (show(List.range (k+1)).any (fg l0)=false from by rw [List.range_succ,se,U.out];simp [am]);have HTK:=rn (show(jB ((l0.take k).map S48.f0)).put (nmK l0[k].f0) tru=jB ((l0.take (k+1)).map S48.f0)from by rw [rM q,List.map_append,List.map_singleton,iI]);clear X hdd am y;go_wp2_with (first|(at_lookup;refine ej _ rfl _ _ rfl mb k _ rfl HMA.out _ _ rfl HK.out false HAT.out ?_)|(at_mapUpdate;refine wpList_mapUpdate_own _ rfl _ _ _ 152 rfl 9 4 (string_keyed Tryz.underlying9) Tryz.underlying152 _ mb k _ rfl HMA.out (by unfold maxLen;omega) _ _ _ rfl rfl HK.out tru [] (plainElem_bool Tryz.underlying4 true) ?_;intro w1 hown1 hgrow1;have HM1:=rn (HTK.out▸hown1);have HB1:=rn (G.out.grown hgrow1 G.out.size (fun j hj=>by cases hj;exact hmz));clear hown1 hgrow1));go_roundw;case rel=>exact⟨k+1,by omega,by go_num,HZ2,HM1,HB1⟩
      case measure=>simp [intOf];omega
    ·have hkl:k=l0.length:=by omega
     subst hkl;have D:=rn (show r=0 from by rw [←HE2.out,rq (by rw [jb,U.out];decide)]);go_wp2;go_ret;exact⟨by rw [D.out];rfl,z.out⟩
end Go.Proofs.YtiphlfpainoeiaaGreatDoor
namespace Go.Proofs.YtiphlfpainoeiaaGreatDoor
open Go.RowKit Go.Proofs.YtiphlfpainoeiaaGreatDoorW.PrintWords L
def pW(w:World)(e:Ending)(h:World):Prop:=∃b,e= .returned (.pointer (some ⟨b,0,none⟩))∧Below w.heap.size w h
def lJ(w:World)(e:Ending)(h:World):Prop:=∃b,e= .returned (.tuple #[.pointer (some ⟨b,0,none⟩), .int .i64 0])∧Below w.heap.size w h
theorem iS(b o:Nat)(n:Int)(x:Value)(w:World)(h:w.cell? ⟨b,o,none⟩=some x)(q:w.frozen? ⟨b,o,none⟩=false):(callFunc 106 #[.pointer (some ⟨b,o,none⟩), .int .u64 n]).run Tryz.prog w= .ok (.value (.tuple #[])) (w.setCell ⟨b,o,none⟩ (.int .u64 n)):=by
 rw [run_callFunc_extern (e:=Extern.Atomic.storeT) Tryz.func106 (by kernel_rfl) (by kernel_rfl) (by kernel_rfl) (by kernel_rfl)];have e:Extern.Atomic.storeT #[.pointer (some ⟨b,o,none⟩), .int .u64 n]=(do store (←asAddr (.pointer (some ⟨b,o,none⟩))) (.int .u64 n) .atomic;pure (.tuple #[])):=rfl;rw [e];simp [asAddr,run_store_int,stored,h,q,Result.andThen]
set_option maxHeartbeats 1000000 in
theorem ld(b o:Nat)(n:Int)(x:Value)(w:World)(h:w.cell? ⟨b,o,none⟩=some x)(q:w.frozen? ⟨b,o,none⟩=false):Calls Tryz.prog 74 #[.pointer (some ⟨b,o,none⟩), .int .u64 n] w fun e r=>e= .returned (.tuple #[])∧w.setCell ⟨b,o,none⟩ (.int .u64 n)=r:=by
 have hr:=iS b o n x w h q;go_enter Tryz.func74,Tryz.ntmps74;go_wp2
 go_end0
 exact⟨rfl,rfl⟩
set_option maxHeartbeats 1000000 in
theorem lQ(w:World):Calls Tryz.prog 46 #[] w (pW w):=by
 have h:= @run_makeMap Tryz.prog;go_enter Tryz.func46,Tryz.ntmps46;go_wp2;go_ret;exact⟨_,rfl,((rr _ _).alloc (rA _) _).alloc (by simp) _⟩
set_option maxHeartbeats 1000000 in
theorem kg(w:World):Calls Tryz.prog 47 #[] w (pW w):=by
 go_enter Tryz.func47,Tryz.ntmps47;go_wp2;go_ret;exact⟨_,rfl,(rr _ _).alloc (rA _) _⟩
set_option maxHeartbeats 1000000 in
theorem km(w:World):Calls Tryz.prog 51 #[.int .i64 65536] w (lJ w):=by
 go_enter Tryz.func51,Tryz.ntmps51;go_wp2
 go_ret2
 exact⟨_,rfl,(rr _ _).alloc (rA _) _⟩
set_option maxHeartbeats 1000000 in
set_option maxRecDepth 100000 in
theorem oA(w:World):Calls Tryz.prog 76 #[] w (pW w):=by
 obtain⟨i,hi,q⟩:∃i,Tryz.prog.info? 350=some i∧(i.zero.isSome&&i.bytes≤64)=true:=by
  have:(Tryz.prog.info? 350).any (fun i=>i.zero.isSome&&i.bytes≤64)=true:=by kernel_rfl
  cases h:Tryz.prog.info? 350 with
  |none=>rw [h]at this;cases this
  |some i=>rw [h]at this;exact⟨i,rfl,by simpa using this⟩
 simp only [Bool.and_eq_true,decide_eq_true_eq]at q;obtain⟨r,G⟩:=q;obtain⟨z,y⟩:=Option.isSome_iff_exists.1 r;have D:=run_make (P:=Tryz.prog) w 205 350 i z Tryz.underlying205 hi y .i64 .i64 16 16 (by decide) (by decide) (by omega) (by decide);clear hi r G y;generalize madeCells _ _=cs at D;go_enter Tryz.func76,Tryz.ntmps76;go_wp2;go_ret;exact⟨w.heap.size+2,rfl,(((rr _ _).alloc (rA _) _).alloc (by simp) _).alloc (by simp;omega) _⟩
set_option maxHeartbeats 1000000 in
set_option maxRecDepth 100000 in
theorem nR(w:World):Calls Tryz.prog 48 #[.int .u64 0] w (lJ w):=by
 go_enter Tryz.func48,Tryz.ntmps48;go_wp2_with (go_at_call 74;refine(ld _ _ _ _ _ (by go_simp;rfl) (by go_simp)).mono ?_;rintro e w1 ⟨rfl,rfl⟩)
 go_ret2
 exact⟨w.heap.size,rfl,(rr _ _).alloc (rA _) _⟩
set_option maxHeartbeats 1000000 in
set_option maxRecDepth 100000 in
theorem oz(w:World):Calls Tryz.prog 49 #[.int .u64 0] w (lJ w):=by
 go_enter Tryz.func49,Tryz.ntmps49;go_wp2_with (go_at_call 74;refine(ld _ _ _ _ _ (by go_simp;rfl) (by go_simp)).mono ?_;rintro e w1 ⟨rfl,rfl⟩)
 go_ret2
 exact⟨w.heap.size,rfl,(rr _ _).alloc (rA _) _⟩
end Go.Proofs.YtiphlfpainoeiaaGreatDoor
namespace Go.Proofs.YtiphlfpainoeiaaGreatDoor
theorem jY(a b:List UInt8):(Op.bytesLess a b||a==b)= !(Op.bytesLess b a):=by
 induction a generalizing b with
 |nil=>cases b<;>simp [Op.bytesLess]
 |cons x a z=>
  cases b with
  |nil=>simp [Op.bytesLess]
  |cons y b=>
   simp only [Op.bytesLess];rcases Nat.lt_trichotomy x.toNat y.toNat with h|h|h
   ·have h1:x<y:=h
    have q:¬y<x:=fun k=>Nat.lt_asymm h k
    have r:(y==x)=false:=(by rw [ry];rintro rfl;exact Nat.lt_irrefl _ h);simp [h1,q,r]
   ·have:x=y:=sx.1 h
    subst this;have q:¬x<x:=fun k=>Nat.lt_irrefl _ k
    have:=z b;simpa [q]using this
   ·have h1:y<x:=h
    have q:¬x<y:=fun k=>Nat.lt_asymm h k
    have r:(x==y)=false:=(by rw [ry];rintro rfl;exact Nat.lt_irrefl _ h);simp [h1,q,r]
end Go.Proofs.YtiphlfpainoeiaaGreatDoor
namespace Go.Proofs.YtiphlfpainoeiaaGreatDoor.L
open Go.RowKit Go.Proofs.YtiphlfpainoeiaaGreatDoorW.PrintWords Go.Proofs.YtiphlfpainoeiaaGreatDoorW.PrintLast Go.Proofs.YtiphlfpainoeiaaGreatDoorW.PrintMore
attribute [local go_sem] cj cB
noncomputable section
def bq.f(k:Nat)(a0:ByteArray):Option (Int×Int×Nat×ByteArray×ByteArray×Bool):=(b6.f a0 8).bind fun h=>(if h.2.2=true then((a_.f k h.1).bind fun t114=>(if(t114/9223372036854775808)=1 then((bQ.f 3 0 ((Go.bits .xor .u64 t114 9223372036854775808).toNat) (⟨#[]⟩:ByteArray)).bind fun q=>(some (3,0,(Go.bits .xor .u64 t114 9223372036854775808).toNat,(⟨#[]⟩:ByteArray),h.2.1,((q.2.2.1:Int)==(Go.bits .xor .u64 t114 9223372036854775808)))))else((bQ.f 3 0 ((Go.bits .xor .u64 18446744073709551615 t114).toNat) (⟨#[]⟩:ByteArray)).bind fun r=>(some (3,0,(Go.bits .xor .u64 18446744073709551615 t114).toNat,(⟨#[]⟩:ByteArray),h.2.1,((r.2.2.1:Int)==(Go.bits .xor .u64 18446744073709551615 t114)))))))else(some (0,0,0,(⟨#[]⟩:ByteArray),(⟨#[]⟩:ByteArray),false)))
theorem bq.mono:∀a0 k,LeO (bq.f k a0) (bq.f (k+1) a0):=by
 intro a0 k;unfold bq.f
 repeat' first|(with_reducible exact a_.mono _ _)|(with_reducible exact LeO.refl _)|(with_reducible exact LeO.none _)|(with_reducible refine LeO.ite ?_ ?_)|(with_reducible refine LeO.bind ?_ (fun _=>?_))|exact a_.mono _ _|exact LeO.none _|refine LeO.ite ?_ ?_|refine LeO.bind ?_ (fun _=>?_)
def bq.T9:Bool×List (List Nat×List Nat):=(true,[([],[]),([],[]),([],[]),([2],[2]),([3],[3]),([4,3],[4]),([],[]),([5,6],[5,6]),([0,5,0],[0]),([1,8,0,1,8],[1]),([7,9,0,1,2,3,4,5,6,7,8,9],[7])])
def bq.B9:List Nat:=[0,0,0,4,12,28,0,124,61,319,1023]
theorem bq.tab9:dK .any (fa Tryz.f139 9)=bq.T9:=by kernel_rfl
theorem bq.bits9:dq bq.T9.2 bq.B9=true:=by kernel_rfl
set_option maxHeartbeats 8000000 in
set_option maxRecDepth 100000 in
theorem bq.calls(k:Nat)(a0:ByteArray)(r1:Int)(r2:Int)(r3:Nat)(r4:ByteArray)(r5:ByteArray)(r6:Bool)(w:World)(h:bq.f k a0=some (r1,r2,r3,r4,r5,r6)):
 Calls Tryz.prog 139 #[.string a0] w fun e w'=>e= .returned (.tuple #[.agg #[.int .i64 r1, .int .i64 r2, .float .f64 r3, .string r4], .string r5, .bool r6])∧Below w.heap.size w w':=by
 have r:=aa.mk (rr w.heap.size w);have H:((b6.f a0 8).bind fun bt111=>(if bt111.2.2=true then((a_.f k bt111.1).bind fun t114=>(if(t114/9223372036854775808)=1 then((bQ.f 3 0 ((Go.bits .xor .u64 t114 9223372036854775808).toNat) (⟨#[]⟩:ByteArray)).bind fun bt116=>(some (3,0,(Go.bits .xor .u64 t114 9223372036854775808).toNat,(⟨#[]⟩:ByteArray),bt111.2.1,((bt116.2.2.1:Int)==(Go.bits .xor .u64 t114 9223372036854775808)))))else((bQ.f 3 0 ((Go.bits .xor .u64 18446744073709551615 t114).toNat) (⟨#[]⟩:ByteArray)).bind fun bt121=>(some (3,0,(Go.bits .xor .u64 18446744073709551615 t114).toNat,(⟨#[]⟩:ByteArray),bt111.2.1,((bt121.2.2.1:Int)==(Go.bits .xor .u64 18446744073709551615 t114)))))))else(some (0,0,0,(⟨#[]⟩:ByteArray),(⟨#[]⟩:ByteArray),false))))=some (r1,r2,r3,r4,r5,r6):=h;clear h;replace H:=rB.mp H;obtain⟨⟨t111,t112,t113⟩,A20,H⟩:=H;replace H:(if t113=true then((a_.f k t111).bind fun t114=>(if(t114/9223372036854775808)=1 then((bQ.f 3 0 ((Go.bits .xor .u64 t114 9223372036854775808).toNat) (⟨#[]⟩:ByteArray)).bind fun bt116=>(some (3,0,(Go.bits .xor .u64 t114 9223372036854775808).toNat,(⟨#[]⟩:ByteArray),t112,((bt116.2.2.1:Int)==(Go.bits .xor .u64 t114 9223372036854775808)))))else((bQ.f 3 0 ((Go.bits .xor .u64 18446744073709551615 t114).toNat) (⟨#[]⟩:ByteArray)).bind fun bt121=>(some (3,0,(Go.bits .xor .u64 18446744073709551615 t114).toNat,(⟨#[]⟩:ByteArray),t112,((bt121.2.2.1:Int)==(Go.bits .xor .u64 18446744073709551615 t114)))))))else(some (0,0,0,(⟨#[]⟩:ByteArray),(⟨#[]⟩:ByteArray),false)))=some (r1,r2,r3,r4,r5,r6):=H;have A2:=aa.mk A20;clear A20;by_cases c3:t113=true
 ·subst c3
  have H1:((a_.f k t111).bind fun t114=>(if(t114/9223372036854775808)=1 then((bQ.f 3 0 ((Go.bits .xor .u64 t114 9223372036854775808).toNat) (⟨#[]⟩:ByteArray)).bind fun bt116=>(some (3,0,(Go.bits .xor .u64 t114 9223372036854775808).toNat,(⟨#[]⟩:ByteArray),t112,((bt116.2.2.1:Int)==(Go.bits .xor .u64 t114 9223372036854775808)))))else((bQ.f 3 0 ((Go.bits .xor .u64 18446744073709551615 t114).toNat) (⟨#[]⟩:ByteArray)).bind fun bt121=>(some (3,0,(Go.bits .xor .u64 18446744073709551615 t114).toNat,(⟨#[]⟩:ByteArray),t112,((bt121.2.2.1:Int)==(Go.bits .xor .u64 18446744073709551615 t114)))))))=some (r1,r2,r3,r4,r5,r6):=by rw [rp rfl]at H;exact H
  clear H;have H:=H1;clear H1;replace H:=rB.mp H;obtain⟨t114,A40,H⟩:=H;replace H:(if(t114/9223372036854775808)=1 then((bQ.f 3 0 ((Go.bits .xor .u64 t114 9223372036854775808).toNat) (⟨#[]⟩:ByteArray)).bind fun bt116=>(some (3,0,(Go.bits .xor .u64 t114 9223372036854775808).toNat,(⟨#[]⟩:ByteArray),t112,((bt116.2.2.1:Int)==(Go.bits .xor .u64 t114 9223372036854775808)))))else((bQ.f 3 0 ((Go.bits .xor .u64 18446744073709551615 t114).toNat) (⟨#[]⟩:ByteArray)).bind fun bt121=>(some (3,0,(Go.bits .xor .u64 18446744073709551615 t114).toNat,(⟨#[]⟩:ByteArray),t112,((bt121.2.2.1:Int)==(Go.bits .xor .u64 18446744073709551615 t114))))))=some (r1,r2,r3,r4,r5,r6):=H;have A4:=aa.mk A40;clear A40;by_cases c5:(t114/9223372036854775808)=1
  ·rw [rp c5]at H
   have c5b0:((t114/9223372036854775808)==1)=true:=rI.mpr c5;clear c5;replace H:=rB.mp H;obtain⟨⟨t116,t117,t118,t119⟩,A60,H⟩:=H;replace H:(some (3,0,(Go.bits .xor .u64 t114 9223372036854775808).toNat,(⟨#[]⟩:ByteArray),t112,((t118:Int)==(Go.bits .xor .u64 t114 9223372036854775808))))=some (r1,r2,r3,r4,r5,r6):=H;have A6:=aa.mk A60;clear A60;simp only [Option.some.injEq,Prod.mk.injEq]at H;obtain⟨rfl,rfl,rfl,rfl,rfl,rfl⟩:=H;go_enter Tryz.func139,Tryz.ntmps139;try go_wp2_with (first|((with_reducible refine aM (N:=2) rfl ?_);refine aI ?hg (N:=2) ?hd (cs:= #[.int .i64 0, .int .i64 0, .float .f64 0, .string (⟨#[]⟩:ByteArray)]) (t:=84) ?hr ?_;(case hd=>rfl);(case hg=>rfl);(case hr=>(go_simp;done));intro y hg w7 hbox G;have q:=aa.mk hbox;have GE110:=gwO hg r;replace r:=bsO r G;clear G hbox hg)|(go_at_call 137;(with_reducible refine(b6.calls a0 8 t111 t112 true _ A2.out).mono ?_);rintro e w' ⟨rfl,⟨nd,rfl⟩⟩;(try(rw [cW w7];generalize am:World.drewN w7 _=w7;have z:aa (w7.heap[y]? =some (.cells #[.int .i64 0, .int .i64 0, .float .f64 0, .string (⟨#[]⟩:ByteArray)] 84 (0,0))):=⟨by rw [←am];exact(by(with_reducible repeat(refine aH ?_ _));exact q.out)⟩;have D:aa (Below w.heap.size w w7):=⟨by rw [←am];exact(by repeat((with_reducible first|exact r.out|apply aq)))⟩;clear q r am;have q:=z;have r:=D;clear z D)))|(go_at_call 161;(with_reducible refine(a_.calls k t111 t114 _ A4.out).mono ?_);rintro e w' ⟨rfl,⟨nd,rfl⟩⟩;(try(rw [cW w7];generalize am:World.drewN w7 _=w7;have z:aa (w7.heap[y]? =some (.cells #[.int .i64 0, .int .i64 0, .float .f64 0, .string (⟨#[]⟩:ByteArray)] 84 (0,0))):=⟨by rw [←am];exact(by(with_reducible repeat(refine aH ?_ _));exact q.out)⟩;have D:aa (Below w.heap.size w w7):=⟨by rw [←am];exact(by repeat((with_reducible first|exact r.out|apply aq)))⟩;clear q r am;have q:=z;have r:=D;clear z D)))|((with_reducible refine aM (N:=8) rfl ?_);refine aI ?hg (N:=8) ?hd (cs:= #[.int .i64 0, .int .i64 0, .float .f64 0, .string (⟨#[]⟩:ByteArray)]) (t:=84) ?hr ?_;(case hd=>rfl);(case hg=>rfl);(case hr=>(go_simp;done));intro U hg w8 hbox G;have X:=aa.mk hbox;have GE115:=gwO hg r;replace r:=bsO r G;have NB110_115:=nlO hg q;have av:=ngO hg q;replace q:=bbO q G;clear G hbox hg;obtain⟨hcz10_0,hcz10_1,hcz10_2,hcz10_3,hfz10_0,hfz10_1,hfz10_2,hfz10_3⟩:=cz4 X))
   have z:aa (((((w8.setCell ⟨U,0,none⟩ (.int .i64 3)).setCell ⟨U,1,none⟩ (.int .i64 0)).setCell ⟨U,2,none⟩ (.float .f64 ((Go.bits .xor .u64 t114 9223372036854775808).toNat))).setCell ⟨U,3,none⟩ (.string (⟨#[]⟩:ByteArray))).heap[y]? =some (.cells #[.int .i64 0, .int .i64 0, .float .f64 0, .string (⟨#[]⟩:ByteArray)] 84 (0,0))):=⟨by refine az ?_ NB110_115.out _;refine az ?_ NB110_115.out _;refine az ?_ NB110_115.out _;refine az ?_ NB110_115.out _;exact q.out⟩;have D:aa (((((w8.setCell ⟨U,0,none⟩ (.int .i64 3)).setCell ⟨U,1,none⟩ (.int .i64 0)).setCell ⟨U,2,none⟩ (.float .f64 ((Go.bits .xor .u64 t114 9223372036854775808).toNat))).setCell ⟨U,3,none⟩ (.string (⟨#[]⟩:ByteArray))).heap[U]? =some (.cells #[.int .i64 3, .int .i64 0, .float .f64 ((Go.bits .xor .u64 t114 9223372036854775808).toNat), .string (⟨#[]⟩:ByteArray)] 84 (0,0))):=⟨by refine al (cs:= #[.int .i64 3, .int .i64 0, .float .f64 ((Go.bits .xor .u64 t114 9223372036854775808).toNat), .string (⟨#[]⟩:ByteArray)]) ?_ 3 _ rfl;refine al (cs:= #[.int .i64 3, .int .i64 0, .float .f64 0, .string (⟨#[]⟩:ByteArray)]) ?_ 2 _ rfl;refine al (cs:= #[.int .i64 3, .int .i64 0, .float .f64 0, .string (⟨#[]⟩:ByteArray)]) ?_ 1 _ rfl;refine al (cs:= #[.int .i64 0, .int .i64 0, .float .f64 0, .string (⟨#[]⟩:ByteArray)]) ?_ 0 _ rfl;exact X.out⟩;have ap:aa (Below w.heap.size w ((((w8.setCell ⟨U,0,none⟩ (.int .i64 3)).setCell ⟨U,1,none⟩ (.int .i64 0)).setCell ⟨U,2,none⟩ (.float .f64 ((Go.bits .xor .u64 t114 9223372036854775808).toNat))).setCell ⟨U,3,none⟩ (.string (⟨#[]⟩:ByteArray)))):=⟨by repeat((with_reducible first|exact r.out|refine ao ?_ GE115.out))⟩
   (try clear q)
   (try clear X)
   (try clear r)
   generalize((((w8.setCell ⟨U,0,none⟩ (.int .i64 3)).setCell ⟨U,1,none⟩ (.int .i64 0)).setCell ⟨U,2,none⟩ (.float .f64 ((Go.bits .xor .u64 t114 9223372036854775808).toNat))).setCell ⟨U,3,none⟩ (.string (⟨#[]⟩:ByteArray)))=w11 at z D ap⊢;have q:=z;have X:=D;have r:=ap;clear z D ap;have z:=aa.mk (aN q.out);have D:=aa.mk (aN X.out);have ap:=aa.mk (aJ r.out);clear q X r;have q:=z;have X:=D;have r:=ap;clear z D ap;refine cH (n:=11) (S:=fun w'=>w'.cell? ⟨U,0,none⟩=some (.int .i64 3)∧w'.cell? ⟨U,1,none⟩=some (.int .i64 0)∧w'.cell? ⟨U,2,none⟩=some (.float .f64 ((Go.bits .xor .u64 t114 9223372036854775808).toNat))∧w'.cell? ⟨U,3,none⟩=some (.string (⟨#[]⟩:ByteArray))) (ds:=[]) #[false,false,false,false,false,false,false,false,false,false,false] (by kernel_rfl) rfl rfl ⟨(ab X.out 0).trans rfl,(ab X.out 1).trans rfl,(ab X.out 2).trans rfl,(ab X.out 3).trans rfl⟩ (fun Z=>?_);refine cw bq.tab9 bq.bits9 (fun J HW_=>?_);generalize w11.drew=w12 at q X r Z⊢;refine puT 1 31 J ?_;refine puT 6 36 J ?_;refine taT 0 30 J HW_ Z ?_;refine taT 2 32 J HW_ Z ?_;refine onT 3 (some 33) J (fun K hK=>?_);refine dQ Tryz.func143 (by kernel_rfl) rfl #[.agg #[.int .i64 3, .int .i64 0, .float .f64 ((Go.bits .xor .u64 t114 9223372036854775808).toNat), .string (⟨#[]⟩:ByteArray)]] rfl rfl rfl (by(try simp only [List.map_toArray,List.map_cons,List.map_nil]);rfl) ?_
   with_reducible refine(bQ.calls 3 0 ((Go.bits .xor .u64 t114 9223372036854775808).toNat) (⟨#[]⟩:ByteArray) t116 t117 t118 t119 _ A6.out).mono ?_
   rintro e w13 ⟨rfl,G⟩;refine⟨_,rfl,?_⟩;have z:=bbO q G;have D:=bbO X G;have ap:=bsO r G;clear q X r;have q:=z;have X:=D;have r:=ap;clear z D ap
   (try clear G)
   refine hK.out _ _ ⟨(ab X.out 0).trans rfl,(ab X.out 1).trans rfl,(ab X.out 2).trans rfl,(ab X.out 3).trans rfl⟩ (fun Z=>?_);clear hK K;refine nmS ?_;refine puT 4 34 J ?_;refine puT 5 35 J ?_;refine puT 7 37 J ?_;refine onT 8 none J (fun K hK=>?_);have hs14:w13.cell? ⟨y,0,none⟩=some (.int .i64 0):=(ab q.out 0).trans rfl;have hfs14:=au q.out 0;have hs15:w13.cell? ⟨y,1,none⟩=some (.int .i64 0):=(ab q.out 1).trans rfl;have hfs15:=au q.out 1;have hs16:w13.cell? ⟨y,2,none⟩=some (.float .f64 0):=(ab q.out 2).trans rfl;have hfs16:=au q.out 2;have hs17:w13.cell? ⟨y,3,none⟩=some (.string (⟨#[]⟩:ByteArray)):=(ab q.out 3).trans rfl;have hfs17:=au q.out 3;refine eZ (w1:=?_) rfl rfl ?_ ?_;rotate_left
   ·go_simp
    rfl
   refine hK.out _ _ ⟨((ak (p:=⟨y,_,none⟩) av.out _).trans (((ak (p:=⟨y,_,none⟩) av.out _).trans (((ak (p:=⟨y,_,none⟩) av.out _).trans (((ak (p:=⟨y,_,none⟩) av.out _).trans (Z.1)))))))),((ak (p:=⟨y,_,none⟩) av.out _).trans (((ak (p:=⟨y,_,none⟩) av.out _).trans (((ak (p:=⟨y,_,none⟩) av.out _).trans (((ak (p:=⟨y,_,none⟩) av.out _).trans (Z.2.1)))))))),((ak (p:=⟨y,_,none⟩) av.out _).trans (((ak (p:=⟨y,_,none⟩) av.out _).trans (((ak (p:=⟨y,_,none⟩) av.out _).trans (((ak (p:=⟨y,_,none⟩) av.out _).trans (Z.2.2.1)))))))),((ak (p:=⟨y,_,none⟩) av.out _).trans (((ak (p:=⟨y,_,none⟩) av.out _).trans (((ak (p:=⟨y,_,none⟩) av.out _).trans (((ak (p:=⟨y,_,none⟩) av.out _).trans (Z.2.2.2))))))))⟩ (fun Z=>?_);clear hK K;refine puT 9 3 J ?_;refine puT 10 4 J ?_;refine dp (di J.out (by kernel_rfl)) ?_;try go_wp2
   refine rN (bT rfl _ _ y 84 #[.int .i64 3, .int .i64 0, .float .f64 ((Go.bits .xor .u64 t114 9223372036854775808).toNat), .string (⟨#[]⟩:ByteArray)] (0,0) _ rfl (by refine al (cs:= #[.int .i64 3, .int .i64 0, .float .f64 ((Go.bits .xor .u64 t114 9223372036854775808).toNat), .string (⟨#[]⟩:ByteArray)]) ?_ 3 _ rfl;refine al (cs:= #[.int .i64 3, .int .i64 0, .float .f64 0, .string (⟨#[]⟩:ByteArray)]) ?_ 2 _ rfl;refine al (cs:= #[.int .i64 3, .int .i64 0, .float .f64 0, .string (⟨#[]⟩:ByteArray)]) ?_ 1 _ rfl;refine al (cs:= #[.int .i64 0, .int .i64 0, .float .f64 0, .string (⟨#[]⟩:ByteArray)]) ?_ 0 _ rfl;exact q.out) Tryz.underlying84 rfl (by kernel_rfl)) rfl ?_;exact⟨by rfl,by repeat((with_reducible first|exact r.out|refine ao ?_ GE110.out))⟩
  ·rw [rq c5]at H
   have c5b0:((t114/9223372036854775808)==1)=false:=ry.mpr c5;replace H:=rB.mp H;obtain⟨⟨t121,t122,t123,t124⟩,A180,H⟩:=H;replace H:(some (3,0,(Go.bits .xor .u64 18446744073709551615 t114).toNat,(⟨#[]⟩:ByteArray),t112,((t123:Int)==(Go.bits .xor .u64 18446744073709551615 t114))))=some (r1,r2,r3,r4,r5,r6):=H;have A18:=aa.mk A180;clear A180;simp only [Option.some.injEq,Prod.mk.injEq]at H;obtain⟨rfl,rfl,rfl,rfl,rfl,rfl⟩:=H;go_enter Tryz.func139,Tryz.ntmps139;try go_wp2_with (first|((with_reducible refine aM (N:=2) rfl ?_);refine aI ?hg (N:=2) ?hd (cs:= #[.int .i64 0, .int .i64 0, .float .f64 0, .string (⟨#[]⟩:ByteArray)]) (t:=84) ?hr ?_;(case hd=>rfl);(case hg=>rfl);(case hr=>(go_simp;done));intro y hg w19 hbox G;have q:=aa.mk hbox;have GE110:=gwO hg r;replace r:=bsO r G;clear G hbox hg)|(go_at_call 137;(with_reducible refine(b6.calls a0 8 t111 t112 true _ A2.out).mono ?_);rintro e w' ⟨rfl,⟨nd,rfl⟩⟩;(try(rw [cW w19];generalize am:World.drewN w19 _=w19;have z:aa (w19.heap[y]? =some (.cells #[.int .i64 0, .int .i64 0, .float .f64 0, .string (⟨#[]⟩:ByteArray)] 84 (0,0))):=⟨by rw [←am];exact(by(with_reducible repeat(refine aH ?_ _));exact q.out)⟩;have D:aa (Below w.heap.size w w19):=⟨by rw [←am];exact(by repeat((with_reducible first|exact r.out|apply aq)))⟩;clear q r am;have q:=z;have r:=D;clear z D)))|(go_at_call 161;(with_reducible refine(a_.calls k t111 t114 _ A4.out).mono ?_);rintro e w' ⟨rfl,⟨nd,rfl⟩⟩;(try(rw [cW w19];generalize am:World.drewN w19 _=w19;have z:aa (w19.heap[y]? =some (.cells #[.int .i64 0, .int .i64 0, .float .f64 0, .string (⟨#[]⟩:ByteArray)] 84 (0,0))):=⟨by rw [←am];exact(by(with_reducible repeat(refine aH ?_ _));exact q.out)⟩;have D:aa (Below w.heap.size w w19):=⟨by rw [←am];exact(by repeat((with_reducible first|exact r.out|apply aq)))⟩;clear q r am;have q:=z;have r:=D;clear z D)))|((with_reducible refine aM (N:=8) rfl ?_);refine aI ?hg (N:=8) ?hd (cs:= #[.int .i64 0, .int .i64 0, .float .f64 0, .string (⟨#[]⟩:ByteArray)]) (t:=84) ?hr ?_;(case hd=>rfl);(case hg=>rfl);(case hr=>(go_simp;done));intro V hg w20 hbox G;have Y:=aa.mk hbox;have GE120:=gwO hg r;replace r:=bsO r G;have NB110_120:=nlO hg q;have a1:=ngO hg q;replace q:=bbO q G;clear G hbox hg;obtain⟨hcz22_0,hcz22_1,hcz22_2,hcz22_3,hfz22_0,hfz22_1,hfz22_2,hfz22_3⟩:=cz4 Y))
   have z:aa (((((w20.setCell ⟨V,0,none⟩ (.int .i64 3)).setCell ⟨V,1,none⟩ (.int .i64 0)).setCell ⟨V,2,none⟩ (.float .f64 ((Go.bits .xor .u64 18446744073709551615 t114).toNat))).setCell ⟨V,3,none⟩ (.string (⟨#[]⟩:ByteArray))).heap[y]? =some (.cells #[.int .i64 0, .int .i64 0, .float .f64 0, .string (⟨#[]⟩:ByteArray)] 84 (0,0))):=⟨by refine az ?_ NB110_120.out _;refine az ?_ NB110_120.out _;refine az ?_ NB110_120.out _;refine az ?_ NB110_120.out _;exact q.out⟩;have D:aa (((((w20.setCell ⟨V,0,none⟩ (.int .i64 3)).setCell ⟨V,1,none⟩ (.int .i64 0)).setCell ⟨V,2,none⟩ (.float .f64 ((Go.bits .xor .u64 18446744073709551615 t114).toNat))).setCell ⟨V,3,none⟩ (.string (⟨#[]⟩:ByteArray))).heap[V]? =some (.cells #[.int .i64 3, .int .i64 0, .float .f64 ((Go.bits .xor .u64 18446744073709551615 t114).toNat), .string (⟨#[]⟩:ByteArray)] 84 (0,0))):=⟨by refine al (cs:= #[.int .i64 3, .int .i64 0, .float .f64 ((Go.bits .xor .u64 18446744073709551615 t114).toNat), .string (⟨#[]⟩:ByteArray)]) ?_ 3 _ rfl;refine al (cs:= #[.int .i64 3, .int .i64 0, .float .f64 0, .string (⟨#[]⟩:ByteArray)]) ?_ 2 _ rfl;refine al (cs:= #[.int .i64 3, .int .i64 0, .float .f64 0, .string (⟨#[]⟩:ByteArray)]) ?_ 1 _ rfl;refine al (cs:= #[.int .i64 0, .int .i64 0, .float .f64 0, .string (⟨#[]⟩:ByteArray)]) ?_ 0 _ rfl;exact Y.out⟩;have ap:aa (Below w.heap.size w ((((w20.setCell ⟨V,0,none⟩ (.int .i64 3)).setCell ⟨V,1,none⟩ (.int .i64 0)).setCell ⟨V,2,none⟩ (.float .f64 ((Go.bits .xor .u64 18446744073709551615 t114).toNat))).setCell ⟨V,3,none⟩ (.string (⟨#[]⟩:ByteArray)))):=⟨by repeat((with_reducible first|exact r.out|refine ao ?_ GE120.out))⟩
   (try clear q)
   (try clear Y)
   (try clear r)
   (try simp only [show IntKind.u64.max=18446744073709551615 from by rfl])
   generalize((((w20.setCell ⟨V,0,none⟩ (.int .i64 3)).setCell ⟨V,1,none⟩ (.int .i64 0)).setCell ⟨V,2,none⟩ (.float .f64 ((Go.bits .xor .u64 18446744073709551615 t114).toNat))).setCell ⟨V,3,none⟩ (.string (⟨#[]⟩:ByteArray)))=w23 at z D ap⊢;have q:=z;have Y:=D;have r:=ap;clear z D ap;have z:=aa.mk (aN q.out);have D:=aa.mk (aN Y.out);have ap:=aa.mk (aJ r.out);clear q Y r;have q:=z;have Y:=D;have r:=ap;clear z D ap;refine cH (n:=11) (S:=fun w'=>w'.cell? ⟨V,0,none⟩=some (.int .i64 3)∧w'.cell? ⟨V,1,none⟩=some (.int .i64 0)∧w'.cell? ⟨V,2,none⟩=some (.float .f64 ((Go.bits .xor .u64 18446744073709551615 t114).toNat))∧w'.cell? ⟨V,3,none⟩=some (.string (⟨#[]⟩:ByteArray))) (ds:=[]) #[false,false,false,false,false,false,false,false,false,false,false] (by kernel_rfl) rfl rfl ⟨(ab Y.out 0).trans rfl,(ab Y.out 1).trans rfl,(ab Y.out 2).trans rfl,(ab Y.out 3).trans rfl⟩ (fun Z=>?_);refine cw bq.tab9 bq.bits9 (fun J HW_=>?_);generalize w23.drew=w24 at q Y r Z⊢;refine puT 1 31 J ?_;refine puT 6 36 J ?_;refine taT 0 30 J HW_ Z ?_;refine taT 2 32 J HW_ Z ?_;refine onT 3 (some 33) J (fun K hK=>?_);refine dQ Tryz.func143 (by kernel_rfl) rfl #[.agg #[.int .i64 3, .int .i64 0, .float .f64 ((Go.bits .xor .u64 18446744073709551615 t114).toNat), .string (⟨#[]⟩:ByteArray)]] rfl rfl rfl (by(try simp only [List.map_toArray,List.map_cons,List.map_nil]);rfl) ?_
   with_reducible refine(bQ.calls 3 0 ((Go.bits .xor .u64 18446744073709551615 t114).toNat) (⟨#[]⟩:ByteArray) t121 t122 t123 t124 _ A18.out).mono ?_
   rintro e w25 ⟨rfl,G⟩;refine⟨_,rfl,?_⟩;have z:=bbO q G;have D:=bbO Y G;have ap:=bsO r G;clear q Y r;have q:=z;have Y:=D;have r:=ap;clear z D ap
   (try clear G)
   refine hK.out _ _ ⟨(ab Y.out 0).trans rfl,(ab Y.out 1).trans rfl,(ab Y.out 2).trans rfl,(ab Y.out 3).trans rfl⟩ (fun Z=>?_);clear hK K;refine nmS ?_;refine puT 4 34 J ?_;refine puT 5 35 J ?_;refine puT 7 37 J ?_;refine onT 8 none J (fun K hK=>?_);have hs26:w25.cell? ⟨y,0,none⟩=some (.int .i64 0):=(ab q.out 0).trans rfl;have hfs26:=au q.out 0;have hs27:w25.cell? ⟨y,1,none⟩=some (.int .i64 0):=(ab q.out 1).trans rfl;have hfs27:=au q.out 1;have hs28:w25.cell? ⟨y,2,none⟩=some (.float .f64 0):=(ab q.out 2).trans rfl;have hfs28:=au q.out 2;have hs29:w25.cell? ⟨y,3,none⟩=some (.string (⟨#[]⟩:ByteArray)):=(ab q.out 3).trans rfl;have hfs29:=au q.out 3;refine eZ (w1:=?_) rfl rfl ?_ ?_;rotate_left
   ·go_simp
    rfl
   refine hK.out _ _ ⟨((ak (p:=⟨y,_,none⟩) a1.out _).trans (((ak (p:=⟨y,_,none⟩) a1.out _).trans (((ak (p:=⟨y,_,none⟩) a1.out _).trans (((ak (p:=⟨y,_,none⟩) a1.out _).trans (Z.1)))))))),((ak (p:=⟨y,_,none⟩) a1.out _).trans (((ak (p:=⟨y,_,none⟩) a1.out _).trans (((ak (p:=⟨y,_,none⟩) a1.out _).trans (((ak (p:=⟨y,_,none⟩) a1.out _).trans (Z.2.1)))))))),((ak (p:=⟨y,_,none⟩) a1.out _).trans (((ak (p:=⟨y,_,none⟩) a1.out _).trans (((ak (p:=⟨y,_,none⟩) a1.out _).trans (((ak (p:=⟨y,_,none⟩) a1.out _).trans (Z.2.2.1)))))))),((ak (p:=⟨y,_,none⟩) a1.out _).trans (((ak (p:=⟨y,_,none⟩) a1.out _).trans (((ak (p:=⟨y,_,none⟩) a1.out _).trans (((ak (p:=⟨y,_,none⟩) a1.out _).trans (Z.2.2.2))))))))⟩ (fun Z=>?_);clear hK K;refine puT 9 3 J ?_;refine puT 10 4 J ?_;refine dp (di J.out (by kernel_rfl)) ?_;try go_wp2
   refine rN (bT rfl _ _ y 84 #[.int .i64 3, .int .i64 0, .float .f64 ((Go.bits .xor .u64 18446744073709551615 t114).toNat), .string (⟨#[]⟩:ByteArray)] (0,0) _ rfl (by refine al (cs:= #[.int .i64 3, .int .i64 0, .float .f64 ((Go.bits .xor .u64 18446744073709551615 t114).toNat), .string (⟨#[]⟩:ByteArray)]) ?_ 3 _ rfl;refine al (cs:= #[.int .i64 3, .int .i64 0, .float .f64 0, .string (⟨#[]⟩:ByteArray)]) ?_ 2 _ rfl;refine al (cs:= #[.int .i64 3, .int .i64 0, .float .f64 0, .string (⟨#[]⟩:ByteArray)]) ?_ 1 _ rfl;refine al (cs:= #[.int .i64 0, .int .i64 0, .float .f64 0, .string (⟨#[]⟩:ByteArray)]) ?_ 0 _ rfl;exact q.out) Tryz.underlying84 rfl (by kernel_rfl)) rfl ?_;exact⟨by rfl,by repeat((with_reducible first|exact r.out|refine ao ?_ GE110.out))⟩
 ·replace c3:=rT.mpr c3
  subst c3;have H1:(some (0,0,0,(⟨#[]⟩:ByteArray),(⟨#[]⟩:ByteArray),false))=some (r1,r2,r3,r4,r5,r6):=by rw [rq (show¬(false=true)by decide)]at H;exact H
  clear H;have H:=H1;clear H1;simp only [Option.some.injEq,Prod.mk.injEq]at H;obtain⟨rfl,rfl,rfl,rfl,rfl,rfl⟩:=H;go_enter Tryz.func139,Tryz.ntmps139;go_wp2_with (first|((with_reducible refine aM (N:=2) rfl ?_);refine aI ?hg (N:=2) ?hd (cs:= #[.int .i64 0, .int .i64 0, .float .f64 0, .string (⟨#[]⟩:ByteArray)]) (t:=84) ?hr ?_;(case hd=>rfl);(case hg=>rfl);(case hr=>(go_simp;done));intro y hg w30 hbox G;have q:=aa.mk hbox;have GE110:=gwO hg r;replace r:=bsO r G;clear G hbox hg)|(go_at_call 137;(with_reducible refine(b6.calls a0 8 t111 t112 false _ A2.out).mono ?_);rintro e w' ⟨rfl,⟨nd,rfl⟩⟩;(try(rw [cW w30];generalize am:World.drewN w30 _=w30;have z:aa (w30.heap[y]? =some (.cells #[.int .i64 0, .int .i64 0, .float .f64 0, .string (⟨#[]⟩:ByteArray)] 84 (0,0))):=⟨by rw [←am];exact(by(with_reducible repeat(refine aH ?_ _));exact q.out)⟩;have D:aa (Below w.heap.size w w30):=⟨by rw [←am];exact(by repeat((with_reducible first|exact r.out|apply aq)))⟩;clear q r am;have q:=z;have r:=D;clear z D));obtain⟨hcz31_0,hcz31_1,hcz31_2,hcz31_3,hfz31_0,hfz31_1,hfz31_2,hfz31_3⟩:=cz4 q));refine rN (bT rfl _ _ y 84 #[.int .i64 0, .int .i64 0, .float .f64 0, .string (⟨#[]⟩:ByteArray)] (0,0) _ rfl (by refine al (cs:= #[.int .i64 0, .int .i64 0, .float .f64 0, .string (⟨#[]⟩:ByteArray)]) ?_ 3 _ rfl;refine al (cs:= #[.int .i64 0, .int .i64 0, .float .f64 0, .string (⟨#[]⟩:ByteArray)]) ?_ 2 _ rfl;refine al (cs:= #[.int .i64 0, .int .i64 0, .float .f64 0, .string (⟨#[]⟩:ByteArray)]) ?_ 1 _ rfl;refine al (cs:= #[.int .i64 0, .int .i64 0, .float .f64 0, .string (⟨#[]⟩:ByteArray)]) ?_ 0 _ rfl;exact q.out) Tryz.underlying84 rfl (by kernel_rfl)) rfl ?_;exact⟨by rfl,by repeat((with_reducible first|exact r.out|refine ao ?_ GE110.out))⟩
end
end Go.Proofs.YtiphlfpainoeiaaGreatDoor.L
