/- Part 15 of the proof of RedoRecords (conditions: none beyond the statement's own guards). -/
import Derived.Test.YtiphlfpainoeiaaGreatDoorQ14
set_option linter.unusedVariables false
set_option linter.unusedSimpArgs false
namespace Go.Proofs.YtiphlfpainoeiaaGreatDoor
open Go.RowKit Go.Proofs.YtiphlfpainoeiaaGreatDoorW.PrintWords Go.Proofs.YtiphlfpainoeiaaGreatDoorW.PrintLast Go.Proofs.YtiphlfpainoeiaaGreatDoorW.PrintMore L
structure n7 (k:Nat) (q:Int→List UInt8) (r:ByteArray→List UInt8) (h:S52→ByteArray) (l0:List S48) (x:S52):Prop where
 lo:0≤x.f0
 hi:x.f0<l0.length
 num:aT.f k x.f0=some ⟨(q x.f0).toArray⟩
 key:aT.f k (x.f1.size:Int)=some ⟨(q (x.f1.size:Int)).toArray⟩
 keyc:r x.f1=q (x.f1.size:Int)++x.f1.data.toList
 key63:x.f1.size≤9223372036854775807
 row:x.f2=false→∃e,bX.f k (ax l0 x.f0).f0 (ax l0 x.f0).f1 (ax l0 x.f0).f2 (ax l0 x.f0).f3 (ax l0 x.f0).f4 x.f3=some (h x,e)
 tail:x.f2=false→aT.f k ((h x).size:Int)=some ⟨(q ((h x).size:Int)).toArray⟩
 tailc:x.f2=false→r (h x)=q ((h x).size:Int)++(h x).data.toList
 tail63:(h x).size≤9223372036854775807
theorem lD(a:List UInt8)(s:ByteArray):(⟨a.toArray⟩:ByteArray)++s=⟨(a++s.data.toList).toArray⟩:=by
 apply sG;simp
set_option maxHeartbeats 4000000 in
set_option maxRecDepth 100000 in
theorem j7(k:Nat)(z:Int→List UInt8)(Y:ByteArray→List UInt8)(en:S52→ByteArray)(A0 A1:Option Addr)(c0 c1:Nat)(l0:List S48)(st:Int)(l1:List S52)(w:World)
 (hr0:Kd.C k48 w A0 l0.length l0)(hc0:l0.length≤c0)(hr1:Kd.C k52 w A1 l1.length l1)(hc1:l1.length≤c1)(hG:GT w)
 (hst:aT.f k st=some ⟨(z st).toArray⟩)(hln:aT.f k (l1.length:Int)=some ⟨(z l1.length).toArray⟩)(hx:∀x∈l1,n7 k z Y en l0 x)(hz:(dL z Y en st l1).length≤70368744177664):
 Calls Tryz.prog 21 #[.slice A0 l0.length c0, .agg #[.int .u64 st, .slice A1 l1.length c1]] w fun e w'=>e= .returned (.string ⟨(dL z Y en st l1).toArray⟩)∧Below w.heap.size w w':=by
 have hm0:=Kd.C_max hr0;have hm1:=Kd.C_max hr1;have HR0:=rn hr0;have HR1:=rn hr1;have HG:=rn hG;have hzz:(z st++z l1.length).length≤70368744177664:=by simp only [dL,List.length_append]at hz⊢;omega
 obtain⟨S1,hS1⟩:∃s,(⟨(z st).toArray⟩:ByteArray)=s:=⟨_,rfl⟩;obtain⟨S2,hS2⟩:∃s,(⟨(z l1.length).toArray⟩:ByteArray)=s:=⟨_,rfl⟩;have hz1:S1.size+S2.size≤70368744177664:=by rw [←hS1,←hS2];simp only [List.length_append]at hzz;simp [ByteArray.size];omega
 have hz9:(9223372036854775807<S1.size+S2.size)=False:=eq_false (by omega);have HS12:=rn (show(S1++S2).data.toList=z st++z l1.length from by rw [←hS1,←hS2,cN]);have HST:=rn (show aT.f k st=some S1 from by rw [hst,hS1]);have HLW:=rn (show aT.f k (IntKind.u64.wrap (l1.length:Int))=some S2 from by rw [bP,sC (by omega) (by omega),hln,hS2]);have HX:=rn hx;have HZ:=rn hz;have hz12:(S1++S2).size≤140737488355328:=by rw [ByteArray.size_append];omega
 have HB:=rn (ai (rr w.heap.size w) (.cells #[.int .u64 st, .slice A1 l1.length c1] 26));have h:=rn (cl w (.cells #[.int .u64 st, .slice A1 l1.length c1] 26));clear hr0 hr1 hG hst hln hx hz hS1 hS2 hzz;have hu:=Tryz.underlying52;have hu48:=Tryz.underlying48;have hconv:∀(s:ByteArray) (W:World),(convert 9 66 (.string s)).run Tryz.prog W= .ok (.slice (some ⟨W.heap.size,0,none⟩) s.size (grownCap W s.size 0 5)) (Lib.bytesWorld W 5 s):=fun s W=>Lib.run_convert_string_bytes W 9 66 5 s Tryz.underlying9 Tryz.underlying66 Tryz.underlying5
 go_enter Tryz.func21,Tryz.ntmps21;go_wp2_with fail;obtain⟨wd,hwd⟩:∃wd,(w.alloc (.cells #[.int .u64 st, .slice A1 l1.length c1] 26)).drew=wd:=⟨_,rfl⟩;have HBd:=rn (show Below w.heap.size w wd from hwd▸aJ HB.out);have HCd:=rn (show wd.heap[w.heap.size]? =some (.cells #[.int .u64 st, .slice A1 l1.length c1] 26 (0,0))from hwd▸aN h.out);refine cH (n:=11) (S:=fun w'=>w'.cell? ⟨w.heap.size,0,none⟩=some (.int .u64 st)∧w'.cell? ⟨w.heap.size,1,none⟩=some (.slice A1 l1.length c1)) (ds:=[]) #[false,false,false,false,false,false,false,false,false,false,false] (by kernel_rfl) rfl rfl ⟨(ab (aN h.out) 0).trans rfl,(ab (aN h.out) 1).trans rfl⟩ (fun hHeld=>?_);rw [hwd]at hHeld⊢;clear HB h hwd;refine puK 0 10 ?_;refine taK 1 11 hHeld ?_;refine puK 3 13 ?_;refine taK 4 14 hHeld ?_;refine puK 5 15 ?_;refine puK 6 16 ?_;refine onK 2 (some 12) (fun K hK=>?_);refine dQ Tryz.func42 (by kernel_rfl) rfl #[.int .u64 st] rfl rfl rfl (by(try simp only [List.map_toArray,List.map_cons,List.map_nil]);rfl) ?_;refine(aT.calls k _ _ _ HST.out).mono ?_;rintro e w1 ⟨rfl,q⟩;refine⟨_,rfl,?_⟩;have HB:=rn (an HBd.out q);have h:=rn (aQ HCd.out q);clear HBd HCd q hHeld;refine hK.out _ _ ⟨(ab h.out 0).trans rfl,(ab h.out 1).trans rfl⟩ (fun hHeld=>?_);clear hK K;refine nmS ?_;refine onK 7 (some 17) (fun K hK=>?_);refine dQ Tryz.func42 (by kernel_rfl) rfl #[.int .u64 (IntKind.u64.wrap (l1.length:Int))] rfl rfl rfl (by(try simp only [List.map_toArray,List.map_cons,List.map_nil]);rfl) ?_;refine(aT.calls k _ _ _ HLW.out).mono ?_;rintro e w2 ⟨rfl,q⟩;refine⟨_,rfl,?_⟩;replace HB:=rn (an HB.out q);replace h:=rn (aQ h.out q);clear q hHeld;refine hK.out _ _ ⟨(ab h.out 0).trans rfl,(ab h.out 1).trans rfl⟩ (fun hHeld=>?_);clear hK K;refine nmS ?_;refine puK 8 18 ?_;refine onK 9 (some 19) (fun K hK=>?_);rw [rp (by rfl)];go_simp;have hlt0:w.heap.size<w2.heap.size:=bH h.out;refine hK.out _ _ ⟨(Lib.bytesWorld_old _ _ _ _ hlt0).trans ((ab h.out 0).trans rfl),(Lib.bytesWorld_old _ _ _ _ hlt0).trans ((ab h.out 1).trans rfl)⟩ (fun hHeld=>?_);clear hK K;refine puK 10 5 ?_;refine dp (by kernel_rfl) ?_;clear hHeld;rw [show IntKind.u64.wrap (l1.length:Int)=(l1.length:Int)from by rw [bP,sC (by omega) (by omega)]];have HI0:=rn (show Raw w.heap.size (.slice (some ⟨w2.heap.size,0,none⟩) (S1.size+S2.size) (grownCap w2 (S1.size+S2.size) 0 5)) (z st++z l1.length++(l1.take 0).flatMap (chL z Y en)) (Lib.bytesWorld w2 5 (S1++S2))from by
  have:=Raw.conv w2 (S1++S2) w.heap.size HB.out.size hz12;rw [HS12.out,ByteArray.size_append]at this;simpa using this)
 have HB2:=rn (an HB.out (iq w2 (S1++S2)));have HC2:=rn (aQ h.out (iq w2 (S1++S2)));clear h HB HLW HS12 hz1 hz12 hlt0;go_wp2_with fail;go_loopw [6,5] (fun i v wr=>∃m:Nat,m≤l1.length∧i= .int .i64 m∧Hid (Raw w.heap.size v (z st++z l1.length++(l1.take m).flatMap (chL z Y en)) wr)∧Hid (Below w.heap.size w wr)∧Hid (wr.heap[w.heap.size]? =some (.cells #[.int .u64 st, .slice A1 l1.length c1] 26 (0,0)))) (fun i _ _=>l1.length-(intOf i).toNat);case atStart=>exact⟨0,rR _,rfl,HI0,HB2,HC2⟩
 case round=>
  clear HB2 HI0 HC2;obtain⟨r,rfl⟩:∃r:World,r=wr:=⟨_,rfl⟩;obtain⟨m,hm,rfl,HI,HB,D⟩:=hrel;have hc1:r.cell? ⟨w.heap.size,1,none⟩=some (.slice A1 l1.length c1):=(ab D.out 1).trans rfl;have hltb:w.heap.size<r.heap.size:=bH D.out;by_cases hlt:m<l1.length
  ·obtain⟨ad,A3,c3,rfl,b0,b1,b2,b3,b4,b5⟩:=qH HR1.out m hlt
   replace b0:=aj HB.out b0;replace b1:=aj HB.out b1;replace b2:=aj HB.out b2;replace b3:=aj HB.out b3;have hok:=HX.out _ (rL hlt);obtain⟨x,hx⟩:∃x,l1[m]=x:=⟨_,rfl⟩;have HT:=rn (show(l1.take (m+1)).flatMap (chL z Y en)=(l1.take m).flatMap (chL z Y en)++chL z Y en x from by rw [rM hlt,hx,List.flatMap_append];simp);have hzx:(z st++z l1.length++(l1.take m).flatMap (chL z Y en)).length+(chL z Y en x).length≤70368744177664:=by
    have h1:=HZ.out;have h2:l1.flatMap (chL z Y en)=(l1.take (m+1)).flatMap (chL z Y en)++(l1.drop (m+1)).flatMap (chL z Y en):=(by rw [←List.flatMap_append,List.take_append_drop]);rw [dL,h2,HT.out]at h1;simp only [List.length_append]at h1⊢;omega
   rw [hx]at hok b0 b1 b2 b3 b4 b5;clear hx;obtain⟨f0,f1,f2,f3⟩:=x;obtain⟨lo,hi,num,key,keyc,key63,row,tail,tailc,tail63⟩:=hok;dsimp only at lo hi num key keyc key63 row tail tailc b0 b1 b2 b3 b4 b5;obtain⟨acc,hacc⟩:∃acc,z st++z l1.length++(l1.take m).flatMap (chL z Y en)=acc:=⟨_,rfl⟩;rw [hacc]at HI hzx;obtain⟨S1,hS1⟩:∃s,(⟨(z f0).toArray⟩:ByteArray)=s:=⟨_,rfl⟩;obtain⟨S2,hS2⟩:∃s,(⟨(z (f1.size:Int)).toArray⟩:ByteArray)=s:=⟨_,rfl⟩;have hz1:S1.size+S2.size+f1.size≤140737488355328:=(by rw [←hS1,←hS2,de,de];simp only [chL,List.length_append,keyc,jL]at hzx;omega);have hz9:(9223372036854775807<S1.size+S2.size)=False:=eq_false (by omega);have hz8:(9223372036854775807<S1.size+S2.size+f1.size)=False:=eq_false (by omega);have hz7:(9223372036854775807<(S1++S2).size+f1.size)=False:=eq_false (by rw [ByteArray.size_append];omega);have hz2:acc.length+(z f0++Y f1).length≤140737488355328:=(by simp only [chL,List.length_append]at hzx⊢;omega);have hz2a:acc.length+(z f0++Y f1).length≤70368744177664:=(by simp only [chL,List.length_append]at hzx⊢;omega);have HSS:=rn (show S1++S2++f1=⟨(z f0++Y f1).toArray⟩from by rw [←hS1,←hS2,cN,lD,keyc,rZ]);have HN:=rn (show aT.f k (IntKind.u64.wrap f0)=some S1 from by rw [bP,sC (by omega) (by omega),num,hS1]);have HK:=rn (show aT.f k (IntKind.u64.wrap (f1.size:Int))=some S2 from by rw [bP,sC (by omega) (by omega),key,hS2]);have y:=rn (ai HB.out (.cells #[.int .i64 f0, .string f1, .bool f2, .slice A3 f3.length c3] 52));have G:=rn (Raw.on (ai (rr r.heap.size r) (.cells #[.int .i64 f0, .string f1, .bool f2, .slice A3 f3.length c3] 52)) HI.out);have h:=rn (cl r (.cells #[.int .i64 f0, .string f1, .bool f2, .slice A3 f3.length c3] 52));replace D:=rn (ar D.out (.cells #[.int .i64 f0, .string f1, .bool f2, .slice A3 f3.length c3] 52));have HA:=rn hacc;have HZX:=rn hzx;have HXR:=rn b5;clear hS1 hS2 num key keyc hacc HI HB hzx b5;cases f2 with
   |true=>
    go_wp2_with fail
    go_region_held3 (fun w'=>w'.cell? ⟨r.heap.size,0,none⟩=some (.int .i64 f0)∧w'.cell? ⟨r.heap.size,1,none⟩=some (.string f1)) (first|go_keep|exact⟨Z,am⟩)
     (first
      |(go_at_call 42;((with_reducible refine(aT.calls k _ _ _ HN.out).mono ?_);rintro e w4 ⟨rfl,q⟩;have J:=rn (Raw.on q G.out);have U:=rn (dH q y.out rfl rfl rfl rfl);have V:=rn (cX q h.out);have X:=rn (cX q D.out);clear q G y h D;have G:=J;have y:=U;have h:=V;have D:=X;clear J U V X;have Z:w4.cell? ⟨r.heap.size,0,none⟩=some (.int .i64 f0):=(ab h.out 0).trans rfl;have am:w4.cell? ⟨r.heap.size,1,none⟩=some (.string f1):=(ab h.out 1).trans rfl;have av:w4.cell? ⟨r.heap.size,2,none⟩=some (.bool true):=(ab h.out 2).trans rfl;have ap:w4.cell? ⟨r.heap.size,3,none⟩=some (.slice A3 f3.length c3):=(ab h.out 3).trans rfl))|(go_at_call 42;((with_reducible refine(aT.calls k _ _ _ HK.out).mono ?_);rintro e w5 ⟨rfl,q⟩;have J:=rn (Raw.on q G.out);have U:=rn (dH q y.out rfl rfl rfl rfl);have V:=rn (cX q h.out);have X:=rn (cX q D.out);clear q G y h D Z am av ap;have G:=J;have y:=U;have h:=V;have D:=X;clear J U V X;have Z:w5.cell? ⟨r.heap.size,0,none⟩=some (.int .i64 f0):=(ab h.out 0).trans rfl;have am:w5.cell? ⟨r.heap.size,1,none⟩=some (.string f1):=(ab h.out 1).trans rfl;have av:w5.cell? ⟨r.heap.size,2,none⟩=some (.bool true):=(ab h.out 2).trans rfl;have ap:w5.cell? ⟨r.heap.size,3,none⟩=some (.slice A3 f3.length c3):=(ab h.out 3).trans rfl))|((refine fW _ _ G.out (z f0++Y f1) HSS.out y.out y.out.size hz2 rfl rfl rfl rfl (by rfl) (by rfl) (by rfl) (by rfl) ?_);intro v6 w6 hI q hk;have J:=rn hI;have U:=rn q;have V:=rn (hk _ _ _ _ h.out (by decide));have X:=rn (hk _ _ _ _ D.out (by decide));clear hI q hk G y h D Z am av ap;have G:=J;have y:=U;have h:=V;have D:=X;clear J U V X;have Z:w6.cell? ⟨r.heap.size,0,none⟩=some (.int .i64 f0):=(ab h.out 0).trans rfl;have am:w6.cell? ⟨r.heap.size,1,none⟩=some (.string f1):=(ab h.out 1).trans rfl;have av:w6.cell? ⟨r.heap.size,2,none⟩=some (.bool true):=(ab h.out 2).trans rfl;have ap:w6.cell? ⟨r.heap.size,3,none⟩=some (.slice A3 f3.length c3):=(ab h.out 3).trans rfl))
    have hz3:(acc++(z f0++Y f1)).length+1≤140737488355328:=(by simp only [List.length_append]at hz2a⊢;omega);go_wp2_with (at_builtin;refine jG _ _ G.out 0 0 rfl y.out y.out.size hz3 rfl (by rfl) (by rfl) (by rfl) ?_;intro v7 w7 hI q hk;have J:=rn hI;have U:=rn q;have V:=rn (hk _ _ _ _ h.out (by decide));have X:=rn (hk _ _ _ _ D.out (by decide));clear hI q hk G y h D Z am av ap;have G:=J;have y:=U;have h:=V;have D:=X;clear J U V X;have Z:w7.cell? ⟨r.heap.size,0,none⟩=some (.int .i64 f0):=(ab h.out 0).trans rfl;have am:w7.cell? ⟨r.heap.size,1,none⟩=some (.string f1):=(ab h.out 1).trans rfl;have av:w7.cell? ⟨r.heap.size,2,none⟩=some (.bool true):=(ab h.out 2).trans rfl;have ap:w7.cell? ⟨r.heap.size,3,none⟩=some (.slice A3 f3.length c3):=(ab h.out 3).trans rfl);have HE:=rn (show Raw w.heap.size v7 (z st++z l1.length++(l1.take (m+1)).flatMap (chL z Y en)) w7 from by rw [HT.out,←rZ,HA.out];simpa [chL]using G.out);go_roundw;case rel=>exact⟨m+1,by omega,by go_num,HE,y,D⟩
    case measure=>simp [intOf];omega
   |false=>
    obtain⟨e0,row⟩:=row rfl;have tail:=tail rfl;have tailc:=tailc rfl;obtain⟨E,hE⟩:∃E,en ⟨f0,f1,false,f3⟩=E:=⟨_,rfl⟩;rw [hE]at row tail tailc tail63;obtain⟨S3,hS3⟩:∃s,(⟨(z (E.size:Int)).toArray⟩:ByteArray)=s:=⟨_,rfl⟩;have HRW:=rn row;have HTL:=rn (show aT.f k (IntKind.u64.wrap (E.size:Int))=some S3 from by rw [bP,sC (by omega) (by omega),tail,hS3]);have HTL2:=rn (show aT.f k (E.size:Int)=some S3 from by rw [tail,hS3]);have HS3:=rn (show S3++E=⟨(Y E).toArray⟩from by rw [←hS3,tailc,lD]);have HE0:=rn hE;have hz5:S3.size+E.size≤140737488355328:=(by have:=HZX.out;simp only [chL,List.length_append,if_neg (show¬(false=true)from by decide),List.length_cons,hE,tailc]at this;rw [←hS3,de];rw [jL]at this;omega);clear row tail tailc hS3 hE;go_wp2_with fail
    go_region_held3 (fun w'=>w'.cell? ⟨r.heap.size,0,none⟩=some (.int .i64 f0)∧w'.cell? ⟨r.heap.size,1,none⟩=some (.string f1)) (first|go_keep|exact⟨Z,am⟩)
     (first
      |(go_at_call 42;((with_reducible refine(aT.calls k _ _ _ HN.out).mono ?_);rintro e w4 ⟨rfl,q⟩;have J:=rn (Raw.on q G.out);have U:=rn (dH q y.out rfl rfl rfl rfl);have V:=rn (cX q h.out);have X:=rn (cX q D.out);clear q G y h D;have G:=J;have y:=U;have h:=V;have D:=X;clear J U V X;have Z:w4.cell? ⟨r.heap.size,0,none⟩=some (.int .i64 f0):=(ab h.out 0).trans rfl;have am:w4.cell? ⟨r.heap.size,1,none⟩=some (.string f1):=(ab h.out 1).trans rfl;have av:w4.cell? ⟨r.heap.size,2,none⟩=some (.bool false):=(ab h.out 2).trans rfl;have ap:w4.cell? ⟨r.heap.size,3,none⟩=some (.slice A3 f3.length c3):=(ab h.out 3).trans rfl))|(go_at_call 42;((with_reducible refine(aT.calls k _ _ _ HK.out).mono ?_);rintro e w5 ⟨rfl,q⟩;have J:=rn (Raw.on q G.out);have U:=rn (dH q y.out rfl rfl rfl rfl);have V:=rn (cX q h.out);have X:=rn (cX q D.out);clear q G y h D Z am av ap;have G:=J;have y:=U;have h:=V;have D:=X;clear J U V X;have Z:w5.cell? ⟨r.heap.size,0,none⟩=some (.int .i64 f0):=(ab h.out 0).trans rfl;have am:w5.cell? ⟨r.heap.size,1,none⟩=some (.string f1):=(ab h.out 1).trans rfl;have av:w5.cell? ⟨r.heap.size,2,none⟩=some (.bool false):=(ab h.out 2).trans rfl;have ap:w5.cell? ⟨r.heap.size,3,none⟩=some (.slice A3 f3.length c3):=(ab h.out 3).trans rfl))|((refine fW _ _ G.out (z f0++Y f1) HSS.out y.out y.out.size hz2 rfl rfl rfl rfl (by rfl) (by rfl) (by rfl) (by rfl) ?_);intro v6 w6 hI q hk;have J:=rn hI;have U:=rn q;have V:=rn (hk _ _ _ _ h.out (by decide));have X:=rn (hk _ _ _ _ D.out (by decide));clear hI q hk G y h D Z am av ap;have G:=J;have y:=U;have h:=V;have D:=X;clear J U V X;have Z:w6.cell? ⟨r.heap.size,0,none⟩=some (.int .i64 f0):=(ab h.out 0).trans rfl;have am:w6.cell? ⟨r.heap.size,1,none⟩=some (.string f1):=(ab h.out 1).trans rfl;have av:w6.cell? ⟨r.heap.size,2,none⟩=some (.bool false):=(ab h.out 2).trans rfl;have ap:w6.cell? ⟨r.heap.size,3,none⟩=some (.slice A3 f3.length c3):=(ab h.out 3).trans rfl))
    have hz3:(acc++(z f0++Y f1)).length+1≤140737488355328:=(by simp only [List.length_append]at hz2a⊢;omega);have hz4:(acc++(z f0++Y f1)++ [1]).length+(Y E).length≤140737488355328:=(by simp only [List.length_append]at hz2⊢;have:=HZX.out;simp only [chL,List.length_append,if_neg (show¬(false=true)from by decide),List.length_cons,HE0.out]at this;simp;omega);obtain⟨ad0,B1,d1,B2,d2,B3,d3,B4,d4,rfl,t0,t1,t2,t3,t4,l1_,g1,l2_,g2,l3_,g3,l4_,g4⟩:=eC HR0.out f0 lo hi;obtain⟨t,ht⟩:∃t,ax l0 f0=t:=⟨_,rfl⟩;rw [ht]at t0 t1 t2 t3 t4 l1_ g1 l2_ g2 l3_ g3 l4_ g4 HRW;clear ht;have HG1:=rn g1;have HG2:=rn g2;have HG3:=rn g3;have HG4:=rn g4;have HT0:=rn t0;have HT1:=rn t1;have HT2:=rn t2;have HT3:=rn t3;have HT4:=rn t4;clear g1 g2 g3 g4 t0 t1 t2 t3 t4;have t0:=aj y.out HT0.out;have t1:=aj y.out HT1.out;have t2:=aj y.out HT2.out;have t3:=aj y.out HT3.out;have t4:=aj y.out HT4.out;go_wp2_with fail
    go_region_held3 (fun w'=>w'.cell? ⟨r.heap.size,0,none⟩=some (.int .i64 f0)∧w'.cell? ⟨r.heap.size,3,none⟩=some (.slice A3 f3.length c3)∧w'.cell? (ad0.add (f0.toNat*5))=some (.string t.f0)∧w'.cell? ⟨(ad0.add (f0.toNat*5)).block,(ad0.add (f0.toNat*5)).off+1,none⟩=some (.slice B1 t.f1.length d1)∧w'.cell? ⟨(ad0.add (f0.toNat*5)).block,(ad0.add (f0.toNat*5)).off+2,none⟩=some (.slice B2 t.f2.length d2)∧w'.cell? ⟨(ad0.add (f0.toNat*5)).block,(ad0.add (f0.toNat*5)).off+3,none⟩=some (.slice B3 t.f3.length d3)∧w'.cell? ⟨(ad0.add (f0.toNat*5)).block,(ad0.add (f0.toNat*5)).off+4,none⟩=some (.slice B4 t.f4.length d4)) (first|exact⟨Z,ap,t0,t1,t2,t3,t4⟩|go_keep)
     (first
      |(go_at_call 41;((with_reducible refine(bX.calls k t.f0 _ _ t.f1 _ _ t.f2 _ _ t.f3 _ _ t.f4 _ _ f3 E e0 _ (by exact Cs HG1.out y.out rfl rfl rfl rfl) l1_ (by exact Cs HG2.out y.out rfl rfl rfl rfl) l2_ (by exact Cs HG3.out y.out rfl rfl rfl rfl) l3_ (by exact Cs HG4.out y.out rfl rfl rfl rfl) l4_ (by exact Cs HXR.out y.out rfl rfl rfl rfl) b4 (by exact GT.now HG.out (dc y.out rfl rfl rfl rfl)) HRW.out).mono ?_);rintro e w7 ⟨rfl,q⟩;replace t0:=aj q t0;replace t1:=aj q t1;replace t2:=aj q t2;replace t3:=aj q t3;replace t4:=aj q t4;have J:=rn (Raw.on q G.out);have U:=rn (dH q y.out rfl rfl rfl rfl);have V:=rn (cX q h.out);have X:=rn (cX q D.out);clear q G y h D Z am av ap;have G:=J;have y:=U;have h:=V;have D:=X;clear J U V X;have Z:w7.cell? ⟨r.heap.size,0,none⟩=some (.int .i64 f0):=(ab h.out 0).trans rfl;have am:w7.cell? ⟨r.heap.size,1,none⟩=some (.string f1):=(ab h.out 1).trans rfl;have av:w7.cell? ⟨r.heap.size,2,none⟩=some (.bool false):=(ab h.out 2).trans rfl;have ap:w7.cell? ⟨r.heap.size,3,none⟩=some (.slice A3 f3.length c3):=(ab h.out 3).trans rfl)))
    clear t0 t1 t2 t3 t4;go_wp2_with (first|(go_at_call 42;((with_reducible refine(aT.calls k _ _ _ HTL.out).mono ?_);rintro e w9 ⟨rfl,q⟩;have J:=rn (Raw.on q G.out);have U:=rn (dH q y.out rfl rfl rfl rfl);have V:=rn (cX q h.out);have X:=rn (cX q D.out);clear q G y h D Z am av ap;have G:=J;have y:=U;have h:=V;have D:=X;clear J U V X;have Z:w9.cell? ⟨r.heap.size,0,none⟩=some (.int .i64 f0):=(ab h.out 0).trans rfl;have am:w9.cell? ⟨r.heap.size,1,none⟩=some (.string f1):=(ab h.out 1).trans rfl;have av:w9.cell? ⟨r.heap.size,2,none⟩=some (.bool false):=(ab h.out 2).trans rfl;have ap:w9.cell? ⟨r.heap.size,3,none⟩=some (.slice A3 f3.length c3):=(ab h.out 3).trans rfl))|(go_at_call 42;((with_reducible refine(aT.calls k _ _ _ HTL2.out).mono ?_);rintro e w9 ⟨rfl,q⟩;have J:=rn (Raw.on q G.out);have U:=rn (dH q y.out rfl rfl rfl rfl);have V:=rn (cX q h.out);have X:=rn (cX q D.out);clear q G y h D Z am av ap;have G:=J;have y:=U;have h:=V;have D:=X;clear J U V X;have Z:w9.cell? ⟨r.heap.size,0,none⟩=some (.int .i64 f0):=(ab h.out 0).trans rfl;have am:w9.cell? ⟨r.heap.size,1,none⟩=some (.string f1):=(ab h.out 1).trans rfl;have av:w9.cell? ⟨r.heap.size,2,none⟩=some (.bool false):=(ab h.out 2).trans rfl;have ap:w9.cell? ⟨r.heap.size,3,none⟩=some (.slice A3 f3.length c3):=(ab h.out 3).trans rfl))|(at_builtin;refine jG _ _ G.out 1 1 rfl y.out y.out.size hz3 rfl (by rfl) (by rfl) (by rfl) ?_;intro v8 w8 hI q hk;have J:=rn hI;have U:=rn q;have V:=rn (hk _ _ _ _ h.out (by decide));have X:=rn (hk _ _ _ _ D.out (by decide));clear hI q hk G y h D Z am av ap;have G:=J;have y:=U;have h:=V;have D:=X;clear J U V X;have Z:w8.cell? ⟨r.heap.size,0,none⟩=some (.int .i64 f0):=(ab h.out 0).trans rfl;have am:w8.cell? ⟨r.heap.size,1,none⟩=some (.string f1):=(ab h.out 1).trans rfl;have av:w8.cell? ⟨r.heap.size,2,none⟩=some (.bool false):=(ab h.out 2).trans rfl;have ap:w8.cell? ⟨r.heap.size,3,none⟩=some (.slice A3 f3.length c3):=(ab h.out 3).trans rfl)|(at_builtin;refine oH _ _ G.out (Y E) HS3.out y.out y.out.size hz4 rfl (by rfl) (by rfl) (by rfl) ?_;intro v10 w10 hI q hk;have J:=rn hI;have U:=rn q;have V:=rn (hk _ _ _ _ h.out (by decide));have X:=rn (hk _ _ _ _ D.out (by decide));clear hI q hk G y h D Z am av ap;have G:=J;have y:=U;have h:=V;have D:=X;clear J U V X;have Z:w10.cell? ⟨r.heap.size,0,none⟩=some (.int .i64 f0):=(ab h.out 0).trans rfl;have am:w10.cell? ⟨r.heap.size,1,none⟩=some (.string f1):=(ab h.out 1).trans rfl;have av:w10.cell? ⟨r.heap.size,2,none⟩=some (.bool false):=(ab h.out 2).trans rfl;have ap:w10.cell? ⟨r.heap.size,3,none⟩=some (.slice A3 f3.length c3):=(ab h.out 3).trans rfl));have HE:=rn (show Raw w.heap.size v10 (z st++z l1.length++(l1.take (m+1)).flatMap (chL z Y en)) w10 from by rw [HT.out,←rZ,HA.out];simpa [chL,HE0.out]using G.out);go_roundw;case rel=>exact⟨m+1,by omega,by go_num,HE,y,D⟩
    case measure=>simp [intOf];omega
  ·have hkl:m=l1.length:=by omega
   subst hkl;have HI2:=rn (show Raw w.heap.size _ (dL z Y en st l1) r from by have:=HI.out;rwa [sl]at this);have hst:=ku HI2.out;clear HI;go_wp2;go_ret;exact⟨rfl,HB.out⟩
end Go.Proofs.YtiphlfpainoeiaaGreatDoor
namespace Go.Proofs.YtiphlfpainoeiaaGreatDoor
open L
theorem dT(f:Nat→Int)(n:Nat)(h:cn f n=0):∀k,k<n→f k=0:=by
 intro k q;unfold cn at h;split at h
 ·rename_i i hi
  have:=List.find?_some hi;simp only [bne_iff_ne]at this;exact absurd h this
 ·rename_i hi
  rw [List.find?_eq_none]at hi;have:=hi k (by simpa using q);simpa using this
theorem oX(l:List S88)(k:Nat)(h:k<l.length):l.getD k z88=l[k]:=by simp [List.getD_eq_getElem?_getD,List.getElem?_eq_getElem h]
theorem oW(l:List S90)(k:Nat)(h:k<l.length):l.getD k z90=l[k]:=by simp [List.getD_eq_getElem?_getD,List.getElem?_eq_getElem h]
theorem gT(l:List S48)(k:Nat)(h:k<l.length):l.getD k z48=l[k]:=by simp [List.getD_eq_getElem?_getD,List.getElem?_eq_getElem h]
structure mz (t:S48):Prop where
 name:db t.f0=true
 c1:1≤t.f1.length
 c64:t.f1.length≤64
 x16:t.f3.length≤16
 r16:t.f4.length≤16
 cols:cC t.f1=0
 key:cK t.f1.length t.f2=true
 nul:t.f2.any (dm t.f1)=false
 xs:∀x∈t.f3,cK t.f1.length x.f1=true
 rs:∀x∈t.f4,cK t.f1.length x.f0=true
theorem kO{t:S48}(h:bh t=0):mz t:=by
 unfold bh at h;cases q:db t.f0 with
 |false=>rw [rp q]at h;omega
 |true=>
 rw [rq (by simp [q])]at h;split at h;·omega
 rename_i h1;split at h;·rename_i r;exact absurd h r
 rename_i r;cases y:cK t.f1.length t.f2 with
 |false=>rw [rp y]at h;omega
 |true=>
 rw [rq (by simp [y])]at h;cases z:t.f2.any (dm t.f1)with
 |true=>rw [rp z]at h;omega
 |false=>
 rw [rq (by simp [z])]at h;split at h;·rename_i D;exact absurd h D
 rename_i D;have U:=dT _ _ (sE.1 D);have hr:=dT _ _ h;refine⟨q,by omega,by omega,by omega,by omega,sE.1 r,y,z,?_,?_⟩
 ·intro x J
  obtain⟨i,hi,rfl⟩:=List.getElem_of_mem J;have:=U i hi;unfold bZ at this;rw [oX _ _ hi]at this;cases G:cK t.f1.length t.f3[i].f1 with
  |true=>rfl
  |false=>rw [G]at this;revert this;split<;>(try split)<;>simp
 ·intro x J
  obtain⟨i,hi,rfl⟩:=List.getElem_of_mem J;have:=hr i hi;unfold cU at this;rw [oW _ _ hi]at this;cases G:cK t.f1.length t.f4[i].f0 with
  |true=>rfl
  |false=>rw [G]at this;revert this;split<;>simp
theorem du{n:Nat}{l:List Int}(h:cK n l=true):l.length≤64:=by
 unfold cK at h;simp only [Bool.and_eq_true,decide_eq_true_eq]at h;exact h.1.2
end Go.Proofs.YtiphlfpainoeiaaGreatDoor
namespace Go.Proofs.YtiphlfpainoeiaaGreatDoor
open Go.RowKit Go.Proofs.YtiphlfpainoeiaaGreatDoorW.PrintWords L
set_option maxHeartbeats 4000000 in
set_option maxRecDepth 100000 in
theorem nD(nm:ByteArray)(A1 A2 A3 A4:Option Addr)(c1 c2 c3 c4:Nat)(t1:List S86)(t2:List Int)(t3:List S88)(t4:List S90)(n:Int)(w:World)(Z:GT w)
 (ap:k86.C w A1 t1.length t1)(av:(Kd.int .i64).C w A2 t2.length t2)(a6:k88.C w A3 t3.length t3)(be:k90.C w A4 t4.length t4)(hc1:t1.length≤c1)(hc2:t2.length≤c2)(hc3:t3.length≤c3)(hc4:t4.length≤c4)
 (am:df ⟨nm,t1,t2,t3,t4⟩)(D:bh ⟨nm,t1,t2,t3,t4⟩=0)(h0: -1≤n)(h1:n<t3.length):
 Calls Tryz.prog 52 #[.agg #[.string nm, .slice A1 t1.length c1, .slice A2 t2.length c2, .slice A3 t3.length c3, .slice A4 t4.length c4], .int .i64 n] w (lJ w):=by
 have r:=rn (kO D);have f1:=r.out.c64;have f3:=r.out.x16;have f4:=r.out.r16;have f2:=du r.out.key;have Y:∀x∈t3,x.f1.length≤1000000:=fun x G=>rK (du (r.out.xs x G)) (by decide)
 have fr:∀x∈t4,x.f0.length≤1000000:=fun x G=>rK (du (r.out.rs x G)) (by decide)
 dsimp only at f1 f2 f3 f4;have J:=rn ap;have U:=rn av;have V:=rn a6;have X:=rn be;have HG:=rn Z;have HOK:=rn am;have HT:=rn D;have bt:=rn Y;have bs:=rn fr;have q:=rn (ai (rr w.heap.size w) (.cells #[.string nm, .slice A1 t1.length c1, .slice A2 t2.length c2, .slice A3 t3.length c3, .slice A4 t4.length c4] 48));have HTB:=rn (cl w (.cells #[.string nm, .slice A1 t1.length c1, .slice A2 t2.length c2, .slice A3 t3.length c3, .slice A4 t4.length c4] 48));clear ap av a6 be Z am D Y fr;have hd1:decide (n< -1)=false:=rC (by omega);have hd2:decide ((t3.length:Int)≤n)=false:=rC (by omega);have hu48:=Tryz.underlying48;go_enter Tryz.func52,Tryz.ntmps52;go_wp2_with (first|(go_at_call 67;refine(jn _ _ _ _ _ _ _ _ _ t1 t2 t3 t4 0 _ (HG.out.now q.out) (Kd.C_below J.out q.out) (Kd.C_below U.out q.out) (Kd.C_below V.out q.out) (Kd.C_below X.out q.out) hc1 hc2 hc3 hc4 HOK.out HT.out).mono ?_;rintro e w1 ⟨rfl,h⟩;have y:=rn (an q.out h);have z:=rn (aQ HTB.out h);clear h;have hq0:=ab z.out 0;have hq1:=ab z.out 1;have hq2:=ab z.out 2;have hq3:=ab z.out 3;have hq4:=ab z.out 4)|(go_at_call 75;refine(kj _ _ _ _ _ _ _ _ _ t1 t2 t3 t4 _ (Kd.C_below J.out y.out) (Kd.C_below U.out y.out) (Kd.C_below V.out y.out) (Kd.C_below X.out y.out) (by omega) (by omega) (by omega) (by omega) bt.out bs.out).mono ?_;rintro e w2 ⟨s,a1,n1,k1,a2,n2,k2,a3,n3,k3,a4,n4,k4,rfl,h⟩;have bi:=rn (an y.out h);clear h)|(go_at_call 76;refine(oA _).mono ?_;rintro e w3 ⟨pb,rfl,h⟩;have bl:=rn (an bi.out h);clear h))
 go_ret2
 exact⟨w3.heap.size,rfl,ai bl.out _⟩
def qL(r:Int)(w:World)(e:Ending)(h:World):Prop:=∃p,e= .returned (.tuple #[.pointer p, .int .i64 r])∧Below w.heap.size w h
set_option maxHeartbeats 4000000 in
set_option maxRecDepth 100000 in
theorem qF(A0:Option Addr)(c0:Nat)(l0:List S48)(r:Int)(w:World)(hr0:Kd.C k48 w A0 l0.length l0)(hc0:l0.length≤c0)(hG:GT w)(hok:∀t∈l0,df t)(h:da l0=r):
 Calls Tryz.prog 26 #[.slice A0 l0.length c0, .int .u64 0] w (qL r w):=by
 have hm0:=Kd.C_max hr0;have HR0:=rn hr0;have HG:=rn hG;have HO:=rn hok;have HE:=rn h;clear hr0 hG hok h;have hmm:= @run_makeMap Tryz.prog;by_cases hz:r=0
 case neg=>
  have hd:(r !=0)=true:=by rw [rH];exact hz
  go_enter Tryz.func26,Tryz.ntmps26;go_wp2_with (go_at_call 45;refine(iO _ _ l0 r _ HR0.out hc0 HG.out HO.out HE.out).mono ?_;rintro e w1 ⟨rfl,q⟩;have HB1:=rn q;clear q)
  go_ret2
  exact⟨none,rfl,HB1.out⟩
 subst hz;have hl64:l0.length≤64:=by
  have:=HE.out;unfold da at this;split at this;·omega
  ·omega
 have HTZ:=rn (show∀k,k<l0.length→bh (l0.getD k z48)=0 from by
  have:=HE.out;unfold da at this;split at this;·omega
  ·split at this
   ·rename_i h2;exact absurd this h2
   ·rename_i h2
    exact dT _ _ (sE.1 h2))
 have hu48:=Tryz.underlying48;go_enter Tryz.func26,Tryz.ntmps26;go_wp2_with (first|(go_at_call 45;refine(iO _ _ l0 0 _ HR0.out hc0 HG.out HO.out HE.out).mono ?_;rintro e w1 ⟨rfl,q⟩;have HB1:=rn q;clear q)|(go_at_call 46;refine(lQ _).mono ?_;rintro e w2 ⟨p2,rfl,q⟩;have HB2:=rn (an HB1.out q);clear q)|(go_at_call 47;refine(kg _).mono ?_;rintro e z ⟨p3,rfl,q⟩;have HB3:=rn (an HB2.out q);clear q)|(go_at_call 48;refine(nR _).mono ?_;rintro e w4 ⟨p4,rfl,q⟩;have HB4:=rn (an (ai (ai HB3.out (.map #[] 0)) (.cells #[.int .i32 0, .int .u32 0, .slice none 0 0, .pointer none, .pointer (some ⟨p2,0,none⟩), .pointer none, .pointer (some ⟨p3,0,none⟩), .map (some z.heap.size)] 123)) q);have HD4:=rn (bU.on q (show bU (z.heap.size+1) 8 2 123 128 1 0 w.heap.size (.slice none 0 0) ((z.alloc (.map #[] 0)).alloc (.cells #[.int .i32 0, .int .u32 0, .slice none 0 0, .pointer none, .pointer (some ⟨p2,0,none⟩), .pointer none, .pointer (some ⟨p3,0,none⟩), .map (some z.heap.size)] 123))from⟨⟨_,heap_alloc2_new z _ _,rfl,rfl⟩,dw.nil _ _ _ _⟩));clear q;have hdl:=HD4.out.lt;have hd3:=HB3.out.size;obtain⟨⟨u3,hu3⟩,hv3⟩:=HD4.out.cellx 3 (by decide))|(go_at_call 49;refine(oz _).mono ?_;rintro e w5 ⟨p5,rfl,q⟩;have HB5:=rn (an (HB4.out.setCell (p:=⟨z.heap.size+1,3,none⟩) (by show w.heap.size≤z.heap.size+1;omega) _) q);have HD5:=rn (bU.on q (HD4.out.cellj (by decide) 3 (by decide) _));clear q hu3 hv3 hdl;have hdl:=HD5.out.lt;obtain⟨⟨u5,hu5⟩,hv5⟩:=HD5.out.cellx 5 (by decide)));have HBL:=rn (HB5.out.setCell (p:=⟨z.heap.size+1,5,none⟩) (by show w.heap.size≤z.heap.size+1;omega) (.pointer (some ⟨p5,0,none⟩)));have HDL:=rn (HD5.out.cellj (by decide) 5 (by decide) (.pointer (some ⟨p5,0,none⟩)));clear HB1 HB2 HB3 HB4 HB5 HD4 HD5 hu5 hv5 hdl;go_loopw [42] (fun i wr=>∃(k:Nat) (vt:Value),k≤l0.length∧i= .int .i64 k∧Hid (Below w.heap.size w wr)∧Hid (bU (z.heap.size+1) 8 2 123 128 1 k w.heap.size vt wr)) (fun i _=>l0.length-(intOf i).toNat);case atStart=>exact⟨0,_,rR _,rfl,HBL,HDL⟩
 case round=>
  clear HBL HDL;obtain⟨J,rfl⟩:∃J:World,J=wr:=⟨_,rfl⟩;obtain⟨k,vt,hk,rfl,y,G⟩:=hrel;by_cases hlt:k<l0.length
  ·obtain⟨ad,A1,c1,A2,c2,A3,c3,A4,c4,rfl,b0,b1,b2,b3,b4,e1,g1,e2,g2,e3,g3,e4,g4⟩:=mv HR0.out k hlt
   have htk:=HTZ.out k hlt;rw [gT l0 k hlt]at htk;have hokk:=HO.out _ (rL hlt);obtain⟨t,ht⟩:∃t,l0[k]=t:=⟨_,rfl⟩;rw [ht]at b0 b1 b2 b3 b4 e1 g1 e2 g2 e3 g3 e4 g4 htk hokk;clear ht;replace b0:=aj y.out b0;replace b1:=aj y.out b1;replace b2:=aj y.out b2;replace b3:=aj y.out b3;replace b4:=aj y.out b4;have HG1:=rn g1;have HG2:=rn g2;have HG3:=rn g3;have HG4:=rn g4;have Y:=rn (kO htk);have HTK:=rn htk;have HOK:=rn hokk;have f1:=Y.out.c64;have f3:=Y.out.x16;have f4:=Y.out.r16;have f2:=du Y.out.key;have HFX:=rn (show∀x∈t.f3,x.f1.length≤1000000 from fun x hx=>rK (du (Y.out.xs x hx)) (by decide));have HFR:=rn (show∀x∈t.f4,x.f0.length≤1000000 from fun x hx=>rK (du (Y.out.rs x hx)) (by decide));clear g1 g2 g3 g4 htk hokk;have X:=rn (ai y.out (.cells #[.string t.f0, .slice A1 t.f1.length c1, .slice A2 t.f2.length c2, .slice A3 t.f3.length c3, .slice A4 t.f4.length c4] 48));have hwl:=y.out.size;go_wp2_with (first|(go_at_call 50;refine(jW _ _ _ _ _ _ _ _ _ t.f1 t.f2 t.f3 t.f4 _ (Kd.C_below HG1.out X.out) (Kd.C_below HG2.out X.out) (Kd.C_below HG3.out X.out) (Kd.C_below HG4.out X.out) (by omega) (by omega) (by omega) (by omega) HFX.out HFR.out).mono ?_;rintro e D ⟨s,a1,n1,k1,a2,n2,k2,a3,n3,k3,a4,n4,k4,rfl,q⟩;have HB6:=rn (an X.out q);have HD6:=rn (bU.on q (G.out.alloc (.cells #[.string t.f0, .slice A1 t.f1.length c1, .slice A2 t.f2.length c2, .slice A3 t.f3.length c3, .slice A4 t.f4.length c4] 48)));have HX6:=rn (aQ (cl J (.cells #[.string t.f0, .slice A1 t.f1.length c1, .slice A2 t.f2.length c2, .slice A3 t.f3.length c3, .slice A4 t.f4.length c4] 48)) q);clear q)|(go_at_call 51;refine(km _).mono ?_;rintro e w7 ⟨p7,rfl,q⟩;have HB7:=rn (an (ai HB6.out (.cells #[.string s, .slice a1 n1 k1, .slice a2 n2 k2, .slice a3 n3 k3, .slice a4 n4 k4, .pointer none, .slice none 0 0] 132)) q);have HD7:=rn (bU.on q (HD6.out.alloc (.cells #[.string s, .slice a1 n1 k1, .slice a2 n2 k2, .slice a3 n3 k3, .slice a4 n4 k4, .pointer none, .slice none 0 0] 132)));have HX7:=rn (aQ (ar HX6.out (.cells #[.string s, .slice a1 n1 k1, .slice a2 n2 k2, .slice a3 n3 k3, .slice a4 n4 k4, .pointer none, .slice none 0 0] 132)) q);have HT7:=rn (bU.on q (show bU D.heap.size 7 6 132 135 1 0 w.heap.size (.slice none 0 0) (D.alloc (.cells #[.string s, .slice a1 n1 k1, .slice a2 n2 k2, .slice a3 n3 k3, .slice a4 n4 k4, .pointer none, .slice none 0 0] 132))from⟨⟨_,cl D _,rfl,rfl⟩,dw.nil _ _ _ _⟩));clear q;have htl:=HT7.out.lt;obtain⟨⟨u5,hu5⟩,hv5⟩:=HT7.out.cellx 5 (by decide)));have hw6:=HB6.out.size;have hne6:D.heap.size≠z.heap.size+1:=(by have:=HD6.out.lt;omega);have hxo:J.heap.size≠D.heap.size:=(by have:=bH HX6.out;omega);have HBL:=rn (HB7.out.setCell (p:=⟨D.heap.size,5,none⟩) hw6 (.pointer (some ⟨p7,0,none⟩)));have HTL:=rn (HT7.out.cellj (by decide) 5 (by decide) (.pointer (some ⟨p7,0,none⟩)));have HDL:=rn (show bU (z.heap.size+1) 8 2 123 128 1 k w.heap.size vt (w7.setCell ⟨D.heap.size,5,none⟩ (.pointer (some ⟨p7,0,none⟩)))from by
    obtain⟨⟨cc,hcc,_⟩,_⟩:=HT7.out;exact HD7.out.far hcc (by decide) (fun e=>hne6 e.symm) 5 _)
   have HXL:=rn (az HX7.out (p:=⟨D.heap.size,5,none⟩) hxo (.pointer (some ⟨p7,0,none⟩)));clear y G X HB6 HD6 HX6 HB7 HD7 HX7 HT7 hu5 hv5 htl;go_loopw [11] (fun i wr=>∃(m:Int) (v:Value),-1≤m∧m≤t.f3.length∧i= .int .i64 m∧Hid (Below w.heap.size w wr)∧Hid (bU (z.heap.size+1) 8 2 123 128 1 k w.heap.size vt wr)∧Hid (bU D.heap.size 7 6 132 135 1 (m+1).toNat w.heap.size v wr)∧Hid (wr.heap[J.heap.size]? =some (.cells #[.string t.f0, .slice A1 t.f1.length c1, .slice A2 t.f2.length c2, .slice A3 t.f3.length c3, .slice A4 t.f4.length c4] 48 (0,0)))) (fun i _=>(t.f3.length-intOf i).toNat);case atStart=>exact⟨-1,_,by omega,by omega,rfl,HBL,HDL,HTL,HXL⟩
   case round=>
    clear HBL HDL HTL HXL;obtain⟨wp,rfl⟩:∃wp:World,wp=wr:=⟨_,rfl⟩;obtain⟨m,v,hm1,hm2,rfl,y,G,HT,V⟩:=hrel;have hxl:=bH V.out;have htl:=HT.out.lt;have hq0:wp.cell? ⟨J.heap.size,0,none⟩=some (.string t.f0):=(ab V.out 0).trans rfl;have hq1:wp.cell? ⟨J.heap.size,1,none⟩=some (.slice A1 t.f1.length c1):=(ab V.out 1).trans rfl;have hq2:wp.cell? ⟨J.heap.size,2,none⟩=some (.slice A2 t.f2.length c2):=(ab V.out 2).trans rfl;have hq3:wp.cell? ⟨J.heap.size,3,none⟩=some (.slice A3 t.f3.length c3):=(ab V.out 3).trans rfl;have hq4:wp.cell? ⟨J.heap.size,4,none⟩=some (.slice A4 t.f4.length c4):=(ab V.out 4).trans rfl;by_cases hlm:m<t.f3.length
    ·obtain⟨av,nv,kv,rfl⟩:=HT.out.slice
     obtain⟨hc6,hf6⟩:=HT.out.cell;go_wp2_with (first|(go_at_call 52;refine(nD _ _ _ _ _ _ _ _ _ t.f1 t.f2 t.f3 t.f4 m _ (HG.out.now y.out) (Kd.C_below HG1.out y.out) (Kd.C_below HG2.out y.out) (Kd.C_below HG3.out y.out) (Kd.C_below HG4.out y.out) e1 e2 e3 e4 HOK.out HTK.out (by omega) (by omega)).mono ?_;rintro e w8 ⟨p8,rfl,q⟩;have HB8:=rn (an y.out q);have HD8:=rn (bU.on q G.out);have HX8:=rn (aQ V.out q);have Z:=rn (bU.on q HT.out);clear q hc6 hf6;have htl8:=Z.out.lt;obtain⟨hc6,hf6⟩:=Z.out.cell)|(at_builtin;refine lH w.heap.size 130 135 (.pointer none) Tryz.underlying130 (by kernel_rfl) rfl _ _ _ (.pointer (some ⟨p8,0,none⟩)) _ (by omega) rfl Z.out.2 HB8.out HB8.out.size rfl (by rfl) (by rfl) (by rfl) ?_;intro a9 n9 k9 w9 hp q hk;have HB9:=rn q;have HP9:=rn hp;have U:=rn hk;clear hp q hk;obtain⟨hc9,hf9⟩:=Z.out.after U.out (by decide);have htl9:D.heap.size<w9.heap.size:=rE w9 _ hc9));have HE1:=rn (HB9.out.setCell (p:=⟨D.heap.size,6,none⟩) hw6 (.slice a9 n9 k9));have HE2:=rn (show bU (z.heap.size+1) 8 2 123 128 1 k w.heap.size vt (w9.setCell ⟨D.heap.size,6,none⟩ (.slice a9 n9 k9))from by
      obtain⟨⟨cc,hcc,_⟩,_⟩:=Z.out;exact(HD8.out.keep U.out (by decide) (by decide)).far (U.out _ _ _ _ hcc (by decide)) (by decide) (fun e=>hne6 e.symm) 6 _)
     have HE3:=rn ((Z.out.put U.out (by decide) (by decide) HP9.out).mono (show(m+1).toNat+1≤(m+1+1).toNat from by omega));have HE4:=rn (az (U.out _ _ _ _ HX8.out (by decide)) (p:=⟨D.heap.size,6,none⟩) hxo (.slice a9 n9 k9));go_roundw;case rel=>exact⟨m+1,_,by omega,by omega,by go_num,HE1,HE2,HE3,HE4⟩
     case measure=>simp [intOf];omega
    ·obtain⟨av,nv,kv,rfl⟩:=G.out.slice
     obtain⟨hc2,hf2⟩:=G.out.cell;have hdl:=G.out.lt;go_wp2_with (first|(at_builtin;refine lH w.heap.size 119 128 (.pointer none) Tryz.underlying119 (by kernel_rfl) rfl _ _ _ (.pointer (some ⟨D.heap.size,0,none⟩)) _ (by omega) rfl G.out.2 y.out y.out.size rfl (by rfl) (by rfl) (by rfl) ?_;intro a9 n9 k9 w9 hp q hk;have HB9:=rn q;have HP9:=rn hp;have U:=rn hk;clear hp q hk;obtain⟨hc9,hf9⟩:=G.out.after U.out (by decide);have htl9:z.heap.size+1<w9.heap.size:=rE w9 _ hc9));have HE1:=rn (HB9.out.setCell (p:=⟨z.heap.size+1,2,none⟩) (by show w.heap.size≤z.heap.size+1;omega) (.slice a9 n9 k9));have HE3:=rn (G.out.put U.out (by decide) (by decide) HP9.out);go_roundw;case rel=>exact⟨k+1,_,by omega,by go_num,HE1,HE3⟩
     case measure=>simp [intOf];omega
  ·have hkl:k=l0.length:=by omega
   subst hkl;go_wp2
   go_ret2
   exact⟨_,rfl,y.out⟩
set_option maxHeartbeats 1000000 in
theorem jl(q:Option Addr)(y:Nat)(l0:List S48)(r:Int)(w:World)(J:Kd.C k48 w q l0.length l0)(am:l0.length≤y)(z:GT w)(G:∀t∈l0,df t)(h:da l0=r):
 Calls Tryz.prog 12 #[.slice q l0.length y] w (qL r w):=by
 have Z:=rn J;have X:=rn z;have Y:=rn G;have V:=rn h;clear J z G h;go_enter Tryz.func12,Tryz.ntmps12;go_wp2_with (go_at_call 26;refine(qF _ _ l0 r _ Z.out am X.out Y.out V.out).mono ?_;rintro e w1 ⟨p,rfl,D⟩;have U:=rn D;clear D)
 go_ret2
 exact⟨p,rfl,U.out⟩
theorem gu(nm:ByteArray)(A1 A2 A3 A4:Option Addr)(c1 c2 c3 c4:Nat)(t1:List S86)(t2:List Int)(t3:List S88)(t4:List S90)(r:Int)(w:World)(q:GT w)
 (z:k86.C w A1 t1.length t1)(D:(Kd.int .i64).C w A2 t2.length t2)(G:k88.C w A3 t3.length t3)(J:k90.C w A4 t4.length t4)(y:t2.length≤c2)
 (U:df ⟨nm,t1,t2,t3,t4⟩)(h:bh ⟨nm,t1,t2,t3,t4⟩=r):
 Calls Tryz.prog 36 #[.agg #[.string nm, .slice A1 t1.length c1, .slice A2 t2.length c2, .slice A3 t3.length c3, .slice A4 t4.length c4]] w fun e V=>e= .returned (.int .i64 r)∧Below w.heap.size w V:=by
 subst h;exact ix nm A1 A2 A3 A4 c1 c2 c3 c4 t1 t2 t3 t4 w q z D G J y U
set_option maxHeartbeats 1000000 in
set_option maxRecDepth 100000 in
theorem kn(w:World):Calls Tryz.prog 37 #[.int .i64 65536] w fun e h=>e= .returned (.tuple #[.agg #[.int .i64 65536, .slice none 0 0], .int .i64 0])∧Below w.heap.size w h:=by
 go_enter Tryz.func37,Tryz.ntmps37;go_wp2;refine rN (v:= .tuple #[.agg #[.int .i64 65536, .slice none 0 0], .int .i64 0]) (by simp [results,Tryz.results37,go_sem]) rfl ⟨rfl,(rr _ _).alloc (rA _) _⟩
set_option maxHeartbeats 4000000 in
set_option maxRecDepth 100000 in
theorem kK(nm:ByteArray)(A1 A2 A3 A4:Option Addr)(c1 c2 c3 c4:Nat)(t1:List S86)(t2:List Int)(t3:List S88)(t4:List S90)(n:Int)(w:World)(z:GT w)
 (G:k86.C w A1 t1.length t1)(J:(Kd.int .i64).C w A2 t2.length t2)(U:k88.C w A3 t3.length t3)(V:k90.C w A4 t4.length t4)(hc2:t2.length≤c2)
 (D:df ⟨nm,t1,t2,t3,t4⟩)(X:bh ⟨nm,t1,t2,t3,t4⟩=0)(h0: -1≤n)(h1:n<t3.length):
 Calls Tryz.prog 38 #[.agg #[.string nm, .slice A1 t1.length c1, .slice A2 t2.length c2, .slice A3 t3.length c3, .slice A4 t4.length c4], .int .i64 n] w fun e w'=>e= .returned (.tuple #[.agg #[.string nm, .slice A1 t1.length c1, .slice A2 t2.length c2, .slice A3 t3.length c3, .slice A4 t4.length c4, .int .i64 n, .slice none 0 0], .int .i64 0])∧Below w.heap.size w w':=by
 have HR1:=rn G;have HR2:=rn J;have HR3:=rn U;have HR4:=rn V;have HG:=rn z;have HOK:=rn D;have HT:=rn X;have q:=rn (ai (ai (rr w.heap.size w) (.cells #[.string nm, .slice A1 t1.length c1, .slice A2 t2.length c2, .slice A3 t3.length c3, .slice A4 t4.length c4] 48)) (.cells #[.string ⟨#[]⟩, .slice none 0 0, .slice none 0 0, .slice none 0 0, .slice none 0 0, .int .i64 0, .slice none 0 0] 102));have HX:=rn (heap_alloc2_old w (.cells #[.string nm, .slice A1 t1.length c1, .slice A2 t2.length c2, .slice A3 t3.length c3, .slice A4 t4.length c4] 48) (.cells #[.string ⟨#[]⟩, .slice none 0 0, .slice none 0 0, .slice none 0 0, .slice none 0 0, .int .i64 0, .slice none 0 0] 102));have HRB:=rn (heap_alloc2_new w (.cells #[.string nm, .slice A1 t1.length c1, .slice A2 t2.length c2, .slice A3 t3.length c3, .slice A4 t4.length c4] 48) (.cells #[.string ⟨#[]⟩, .slice none 0 0, .slice none 0 0, .slice none 0 0, .slice none 0 0, .int .i64 0, .slice none 0 0] 102));clear G J U V z D X;have hd1:decide (n< -1)=false:=rC (by omega);have hd2:decide ((t3.length:Int)≤n)=false:=rC (by omega);have hu48:=Tryz.underlying48;have hu102:=Tryz.underlying102;go_enter Tryz.func38,Tryz.ntmps38;go_wp2_with (first|(go_at_call 36;refine(gu _ _ _ _ _ _ _ _ _ t1 t2 t3 t4 0 _ (HG.out.now q.out) (Kd.C_below HR1.out q.out) (Kd.C_below HR2.out q.out) (Kd.C_below HR3.out q.out) (Kd.C_below HR4.out q.out) hc2 HOK.out HT.out).mono ?_;rintro e w1 ⟨rfl,y⟩;have Y:=rn (an q.out y);have r:=rn (aQ HX.out y);have h:=rn (aQ HRB.out y);clear y;have hq0:=ab r.out 0;have hq1:=ab r.out 1;have hq2:=ab r.out 2;have hq3:=ab r.out 3;have hq4:=ab r.out 4;have hz0:=ab h.out 0;have hz1:=ab h.out 1;have hz2:=ab h.out 2;have hz3:=ab h.out 3;have hz4:=ab h.out 4;have hz5:=ab h.out 5;have hz6:=ab h.out 6;have hv0:=au h.out 0;have hv1:=au h.out 1;have hv2:=au h.out 2;have hv3:=au h.out 3;have hv4:=au h.out 4;have hv5:=au h.out 5;have hv6:=au h.out 6));have am:=h.out;have ap:=al am 0 (.string nm) (cs':= #[.string nm, .slice none 0 0, .slice none 0 0, .slice none 0 0, .slice none 0 0, .int .i64 0, .slice none 0 0]) rfl;have av:=al ap 1 (.slice A1 t1.length c1) (cs':= #[.string nm, .slice A1 t1.length c1, .slice none 0 0, .slice none 0 0, .slice none 0 0, .int .i64 0, .slice none 0 0]) rfl;have a1:=al av 2 (.slice A2 t2.length c2) (cs':= #[.string nm, .slice A1 t1.length c1, .slice A2 t2.length c2, .slice none 0 0, .slice none 0 0, .int .i64 0, .slice none 0 0]) rfl;have a2:=al a1 3 (.slice A3 t3.length c3) (cs':= #[.string nm, .slice A1 t1.length c1, .slice A2 t2.length c2, .slice A3 t3.length c3, .slice none 0 0, .int .i64 0, .slice none 0 0]) rfl;have a6:=al a2 4 (.slice A4 t4.length c4) (cs':= #[.string nm, .slice A1 t1.length c1, .slice A2 t2.length c2, .slice A3 t3.length c3, .slice A4 t4.length c4, .int .i64 0, .slice none 0 0]) rfl;have be:=al a6 5 (.int .i64 n) (cs':= #[.string nm, .slice A1 t1.length c1, .slice A2 t2.length c2, .slice A3 t3.length c3, .slice A4 t4.length c4, .int .i64 n, .slice none 0 0]) rfl;have bi:=al be 6 (.slice none 0 0) (cs':= #[.string nm, .slice A1 t1.length c1, .slice A2 t2.length c2, .slice A3 t3.length c3, .slice A4 t4.length c4, .int .i64 n, .slice none 0 0]) rfl;have Z:=(((((((Y.out.setCell (p:=⟨w.heap.size+1,0,none⟩) (sa _) (.string nm)).setCell (p:=⟨w.heap.size+1,1,none⟩) (sa _) (.slice A1 t1.length c1)).setCell (p:=⟨w.heap.size+1,2,none⟩) (sa _) (.slice A2 t2.length c2)).setCell (p:=⟨w.heap.size+1,3,none⟩) (sa _) (.slice A3 t3.length c3)).setCell (p:=⟨w.heap.size+1,4,none⟩) (sa _) (.slice A4 t4.length c4)).setCell (p:=⟨w.heap.size+1,5,none⟩) (sa _) (.int .i64 n)).setCell (p:=⟨w.heap.size+1,6,none⟩) (sa _) (.slice none 0 0));have hl:=run_loadVar_row (P:=Tryz.prog) _ (w.heap.size+1) 102 102 _ (0,0) _ bi hu102 rfl (by kernel_rfl);refine rN (v:= .tuple #[.agg #[.string nm, .slice A1 t1.length c1, .slice A2 t2.length c2, .slice A3 t3.length c3, .slice A4 t4.length c4, .int .i64 n, .slice none 0 0], .int .i64 0]) ?_ rfl ⟨rfl,Z⟩;simp [results,Tryz.results38,asAddr,hl]
def qM(r:Int)(w:World)(e:Ending)(G:World):Prop:=∃A1 h c1 A2 q c2 x y z A3 D c3,e= .returned (.tuple #[.agg #[.slice A1 h c1, .slice A2 q c2, .int .i64 x, .int .u64 y, .int .u64 z, .slice A3 D c3], .int .i64 r])∧Below w.heap.size w G
set_option maxHeartbeats 8000000 in
set_option maxRecDepth 100000 in
theorem gW(A0:Option Addr)(c0:Nat)(l0:List S48)(r:Int)(w:World)(hr0:Kd.C k48 w A0 l0.length l0)(hG:GT w)(hok:∀t∈l0,df t)(h:da l0=r):
 Calls Tryz.prog 19 #[.slice A0 l0.length c0] w (qM r w):=by
 have hm0:=Kd.C_max hr0;have HR0:=rn hr0;have HG:=rn hG;have HO:=rn hok;have HE:=rn h;clear hr0 hG hok h;have hu48:=Tryz.underlying48;have hu58:=Tryz.underlying58;have hu94:=Tryz.underlying94;have hu99:=Tryz.underlying99;have hu102:=Tryz.underlying102;by_cases s1:l0.length<1
 ·have hd1:decide ((l0.length:Int)<1)=true:=ru (by omega)
  have HT:=rn (show r=206 from by rw [←HE.out,da,rp (.inl s1)]);go_enter Tryz.func19,Tryz.ntmps19;go_wp2;refine rN (v:= .tuple #[.agg #[.slice none 0 0, .slice none 0 0, .int .i64 0, .int .u64 0, .int .u64 0, .slice none 0 0], .int .i64 206]) (by simp [results,Tryz.results19,go_sem]) rfl ⟨_,_,_,_,_,_,_,_,_,_,_,_,by rw [HT.out],(rr _ _).alloc (rA _) _⟩
 have hd1:decide ((l0.length:Int)<1)=false:=rC (by omega);by_cases s2:64<l0.length
 ·have hd2:decide ((64:Int)<(l0.length:Int))=true:=ru (by omega)
  have hd2':decide (64<l0.length)=true:=ru (by omega);have HT:=rn (show r=206 from by rw [←HE.out,da,rp (.inr s2)]);go_enter Tryz.func19,Tryz.ntmps19;go_wp2;refine rN (v:= .tuple #[.agg #[.slice none 0 0, .slice none 0 0, .int .i64 0, .int .u64 0, .int .u64 0, .slice none 0 0], .int .i64 206]) (by simp [results,Tryz.results19,go_sem]) rfl ⟨_,_,_,_,_,_,_,_,_,_,_,_,by rw [HT.out],(rr _ _).alloc (rA _) _⟩
 have hd2:decide ((64:Int)<(l0.length:Int))=false:=rC (by omega);have hd2':decide (64<l0.length)=false:=rC (by omega);have HE1:=rn (show(if cn (fun i=>bh (l0.getD i z48)) l0.length≠0 then cn (fun i=>bh (l0.getD i z48)) l0.length else if jb l0=true then 206 else 0)=r from by rw [←HE.out,da,rq (show¬(l0.length<1∨64<l0.length)from by omega)]);clear HE;have HBL:=rn (ai (ai (rr w.heap.size w) (.cells #[.slice none 0 0, .slice none 0 0, .int .i64 0, .int .u64 0, .int .u64 0, .slice none 0 0] 58)) (.cells #[.slice none 0 0, .slice none 0 0, .int .i64 0, .int .u64 0, .int .u64 0, .slice none 0 0] 58));have HRL:=rn (heap_alloc2_old w (.cells #[.slice none 0 0, .slice none 0 0, .int .i64 0, .int .u64 0, .int .u64 0, .slice none 0 0] 58) (.cells #[.slice none 0 0, .slice none 0 0, .int .i64 0, .int .u64 0, .int .u64 0, .slice none 0 0] 58));have HDL:=rn (heap_alloc2_new w (.cells #[.slice none 0 0, .slice none 0 0, .int .i64 0, .int .u64 0, .int .u64 0, .slice none 0 0] 58) (.cells #[.slice none 0 0, .slice none 0 0, .int .i64 0, .int .u64 0, .int .u64 0, .slice none 0 0] 58));have HPL:=rn (dw.nil w.heap.size 99 8 ((w.alloc (.cells #[.slice none 0 0, .slice none 0 0, .int .i64 0, .int .u64 0, .int .u64 0, .slice none 0 0] 58)).alloc (.cells #[.slice none 0 0, .slice none 0 0, .int .i64 0, .int .u64 0, .int .u64 0, .slice none 0 0] 58)));go_enter Tryz.func19,Tryz.ntmps19;go_wp2_with fail;go_loopw [5] (fun i wr=>∃(k:Nat) (vt:Value),k≤l0.length∧i= .int .i64 k∧Hid (e7 (fun i=>bh (l0.getD i z48)) k=true)∧Hid (Below w.heap.size w wr)∧Hid (wr.heap[w.heap.size]? =some (.cells #[.slice none 0 0, .slice none 0 0, .int .i64 0, .int .u64 0, .int .u64 0, .slice none 0 0] 58 (0,0)))∧Hid (wr.heap[w.heap.size+1]? =some (.cells #[vt, .slice none 0 0, .int .i64 0, .int .u64 0, .int .u64 0, .slice none 0 0] 58 (0,0)))∧Hid (dw w.heap.size 99 8 k vt wr)) (fun i _=>l0.length-(intOf i).toNat);case atStart=>exact⟨0,_,rR _,rfl,rn (dG _),HBL,HRL,HDL,HPL⟩
 case round=>
  clear HBL HRL HDL HPL;obtain⟨wo,rfl⟩:∃wo:World,wo=wr:=⟨_,rfl⟩;obtain⟨k,vt,hk,rfl,HZ,y,z,G,HP⟩:=hrel;have hwl:=y.out.size;have hrl:=bH z.out;have hdl:=bH G.out;by_cases hlt:k<l0.length
  ·obtain⟨ad,A1,c1,A2,c2,A3,c3,A4,c4,rfl,Z,b1,b2,b3,b4,e1,g1,e2,g2,e3,g3,e4,g4⟩:=mv HR0.out k hlt
   have hx:l0.getD k z48=l0[k]:=gT l0 k hlt;have hokk:=HO.out _ (rL hlt);obtain⟨t,ht⟩:∃t,l0[k]=t:=⟨_,rfl⟩;rw [ht]at Z b1 b2 b3 b4 e1 g1 e2 g2 e3 g3 e4 g4 hokk hx;clear ht;have HC0:=rn Z;have HC1:=rn b1;have HC2:=rn b2;have HC3:=rn b3;have HC4:=rn b4;replace Z:=aj y.out Z;replace b1:=aj y.out b1;replace b2:=aj y.out b2;replace b3:=aj y.out b3;replace b4:=aj y.out b4;have HG1:=rn g1;have HG2:=rn g2;have HG3:=rn g3;have HG4:=rn g4;have HOK:=rn hokk;clear g1 g2 g3 g4 hokk;obtain⟨ce,hce⟩:∃ce,bh t=ce:=⟨_,rfl⟩;have HCE:=rn hce;by_cases hce0:ce=0
   ·have HS:=rn (cO _ _ HZ.out (show bh (l0.getD k z48)=0 from by rw [hx,hce,hce0]))
    subst hce0;have HTK:=HCE;have HF:=rn (kO hce);have f3:=HF.out.x16;clear hce hx;go_wp2_with (first|(go_at_call 36;refine(gu _ _ _ _ _ _ _ _ _ t.f1 t.f2 t.f3 t.f4 0 _ (HG.out.now y.out) (Kd.C_below HG1.out y.out) (Kd.C_below HG2.out y.out) (Kd.C_below HG3.out y.out) (Kd.C_below HG4.out y.out) e2 HOK.out HCE.out).mono ?_;rintro e w1 ⟨rfl,J⟩;have HB1:=rn (an y.out J);have Y:=rn (aQ z.out J);have HD1:=rn (aQ G.out J);have HP1:=rn (dw.on J HP.out);clear J)|(go_at_call 37;refine(kn _).mono ?_;rintro e D ⟨rfl,J⟩;have HB2:=rn (an HB1.out J);have HR2:=rn (aQ Y.out J);have HD2:=rn (aQ HD1.out J);have HP2:=rn (dw.on J HP1.out);clear J));clear Z b1 b2 b3 b4 Y HD1 HP1 z G HP;have Z:=aj (ai HB2.out (.cells #[.int .i64 65536, .slice none 0 0] 94)) HC0.out;have b1:=aj (ai HB2.out (.cells #[.int .i64 65536, .slice none 0 0] 94)) HC1.out;have b2:=aj (ai HB2.out (.cells #[.int .i64 65536, .slice none 0 0] 94)) HC2.out;have b3:=aj (ai HB2.out (.cells #[.int .i64 65536, .slice none 0 0] 94)) HC3.out;have b4:=aj (ai HB2.out (.cells #[.int .i64 65536, .slice none 0 0] 94)) HC4.out;have hs0:(D.alloc (.cells #[.int .i64 65536, .slice none 0 0] 94)).cell? ⟨D.heap.size,0,none⟩=some (.int .i64 65536):=(ab (cl D _) 0).trans rfl;have hs1:(D.alloc (.cells #[.int .i64 65536, .slice none 0 0] 94)).cell? ⟨D.heap.size,1,none⟩=some (.slice none 0 0):=(ab (cl D _) 1).trans rfl;have hk0:(0:Int)≤(k:Int):=(by omega);have hk1:(k:Int)<(l0.length:Int):=(by omega);have HBX:=rn (ai (ai HB2.out (.cells #[.int .i64 65536, .slice none 0 0] 94)) (.cells #[.string t.f0, .slice A1 t.f1.length c1, .slice A2 t.f2.length c2, .slice A3 t.f3.length c3, .slice A4 t.f4.length c4, .int .i64 65536, .slice none 0 0, .slice none 0 0] 99));have HRX:=rn (ar (ar HR2.out (.cells #[.int .i64 65536, .slice none 0 0] 94)) (.cells #[.string t.f0, .slice A1 t.f1.length c1, .slice A2 t.f2.length c2, .slice A3 t.f3.length c3, .slice A4 t.f4.length c4, .int .i64 65536, .slice none 0 0, .slice none 0 0] 99));have HDX:=rn (ar (ar HD2.out (.cells #[.int .i64 65536, .slice none 0 0] 94)) (.cells #[.string t.f0, .slice A1 t.f1.length c1, .slice A2 t.f2.length c2, .slice A3 t.f3.length c3, .slice A4 t.f4.length c4, .int .i64 65536, .slice none 0 0, .slice none 0 0] 99));have HPX:=rn (dw.on (ai (rr _ _) (.cells #[.string t.f0, .slice A1 t.f1.length c1, .slice A2 t.f2.length c2, .slice A3 t.f3.length c3, .slice A4 t.f4.length c4, .int .i64 65536, .slice none 0 0, .slice none 0 0] 99)) (dw.on (ai (rr _ _) (.cells #[.int .i64 65536, .slice none 0 0] 94)) HP2.out))
    go_region_held3 (fun w'=>w'.cell? (ad.add (k*5))=some (.string t.f0)∧w'.cell? ⟨(ad.add (k*5)).block,(ad.add (k*5)).off+1,none⟩=some (.slice A1 t.f1.length c1)∧w'.cell? ⟨(ad.add (k*5)).block,(ad.add (k*5)).off+2,none⟩=some (.slice A2 t.f2.length c2)∧w'.cell? ⟨(ad.add (k*5)).block,(ad.add (k*5)).off+3,none⟩=some (.slice A3 t.f3.length c3)∧w'.cell? ⟨(ad.add (k*5)).block,(ad.add (k*5)).off+4,none⟩=some (.slice A4 t.f4.length c4)∧w'.cell? ⟨D.heap.size,0,none⟩=some (.int .i64 65536)∧w'.cell? ⟨D.heap.size,1,none⟩=some (.slice none 0 0)) (first|exact⟨Z,b1,b2,b3,b4,hs0,hs1⟩|exact⟨aj (ai (rr _ _) _) Z,aj (ai (rr _ _) _) b1,aj (ai (rr _ _) _) b2,aj (ai (rr _ _) _) b3,aj (ai (rr _ _) _) b4,aj (ai (rr _ _) _) hs0,aj (ai (rr _ _) _) hs1⟩|go_keep) (fail)
    go_wp2_with fail;have HPBX:=rn (show((D.alloc (.cells #[.int .i64 65536, .slice none 0 0] 94)).alloc (.cells #[.string t.f0, .slice A1 t.f1.length c1, .slice A2 t.f2.length c2, .slice A3 t.f3.length c3, .slice A4 t.f4.length c4, .int .i64 65536, .slice none 0 0, .slice none 0 0] 99)).heap[D.heap.size+1]? =some (.cells #[.string t.f0, .slice A1 t.f1.length c1, .slice A2 t.f2.length c2, .slice A3 t.f3.length c3, .slice A4 t.f4.length c4, .int .i64 65536, .slice none 0 0, .slice none 0 0] 99 (0,0))from heap_alloc2_new D _ _);have HXX:=rn (dw.nil w.heap.size 102 7 ((D.alloc (.cells #[.int .i64 65536, .slice none 0 0] 94)).alloc (.cells #[.string t.f0, .slice A1 t.f1.length c1, .slice A2 t.f2.length c2, .slice A3 t.f3.length c3, .slice A4 t.f4.length c4, .int .i64 65536, .slice none 0 0, .slice none 0 0] 99)).drew);have hw2:=HB2.out.size;have hr2:=bH HR2.out;have hd2a:=bH HD2.out;have HVT:=rn (HP2.out.ne_new (show D.heap.size≤D.heap.size+1 from sa _));clear hs0 hs1 Z b1 b2 b3 b4 HB1 HR2 HD2 HP2;go_loopw [10] (fun i wr=>∃(m:Int) (v:Value),-1≤m∧m≤t.f3.length∧i= .int .i64 m∧Hid (Below w.heap.size w wr)∧Hid (wr.heap[w.heap.size]? =some (.cells #[.slice none 0 0, .slice none 0 0, .int .i64 0, .int .u64 0, .int .u64 0, .slice none 0 0] 58 (0,0)))∧Hid (wr.heap[w.heap.size+1]? =some (.cells #[vt, .slice none 0 0, .int .i64 0, .int .u64 0, .int .u64 0, .slice none 0 0] 58 (0,0)))∧Hid (dw w.heap.size 99 8 k vt wr)∧Hid (wr.heap[D.heap.size+1]? =some (.cells #[.string t.f0, .slice A1 t.f1.length c1, .slice A2 t.f2.length c2, .slice A3 t.f3.length c3, .slice A4 t.f4.length c4, .int .i64 65536, .slice none 0 0,v] 99 (0,0)))∧Hid (dw w.heap.size 102 7 (m+1).toNat v wr)) (fun i _=>(t.f3.length-intOf i).toNat);case atStart=>exact⟨-1,_,by omega,by omega,rfl,rn (dc HBX.out rfl rfl rfl rfl),HRX,HDX,HPX,HPBX,HXX⟩
    case round=>
     clear HBX HRX HDX HPX HPBX HXX HB2;obtain⟨wp,rfl⟩:∃wp:World,wp=wr:=⟨_,rfl⟩;obtain⟨m,v,hm1,hm2,rfl,y,z,G,HP,HPB,HX⟩:=hrel;have Z:=aj y.out HC0.out;have b1:=aj y.out HC1.out;have b2:=aj y.out HC2.out;have b3:=aj y.out HC3.out;have b4:=aj y.out HC4.out;by_cases hlm:m<t.f3.length
     ·obtain⟨⟨U,X,V,rfl⟩,_⟩:=HX.out
      go_wp2_with (first|(go_at_call 38;refine(kK _ _ _ _ _ _ _ _ _ t.f1 t.f2 t.f3 t.f4 m _ (HG.out.now y.out) (Kd.C_below HG1.out y.out) (Kd.C_below HG2.out y.out) (Kd.C_below HG3.out y.out) (Kd.C_below HG4.out y.out) e2 HOK.out HTK.out (by omega) (by omega)).mono ?_;rintro e w8 ⟨rfl,J⟩;have HB8:=rn (ai (an y.out J) (.cells #[.string t.f0, .slice A1 t.f1.length c1, .slice A2 t.f2.length c2, .slice A3 t.f3.length c3, .slice A4 t.f4.length c4, .int .i64 m, .slice none 0 0] 102));have HR8:=rn (ar (aQ z.out J) (.cells #[.string t.f0, .slice A1 t.f1.length c1, .slice A2 t.f2.length c2, .slice A3 t.f3.length c3, .slice A4 t.f4.length c4, .int .i64 m, .slice none 0 0] 102));have HD8:=rn (ar (aQ G.out J) (.cells #[.string t.f0, .slice A1 t.f1.length c1, .slice A2 t.f2.length c2, .slice A3 t.f3.length c3, .slice A4 t.f4.length c4, .int .i64 m, .slice none 0 0] 102));have HP8:=rn (dw.on (ai (rr _ _) (.cells #[.string t.f0, .slice A1 t.f1.length c1, .slice A2 t.f2.length c2, .slice A3 t.f3.length c3, .slice A4 t.f4.length c4, .int .i64 m, .slice none 0 0] 102)) (dw.on J HP.out));have HPB7:=rn (aQ HPB.out J);have HPB8:=rn (ar HPB7.out (.cells #[.string t.f0, .slice A1 t.f1.length c1, .slice A2 t.f2.length c2, .slice A3 t.f3.length c3, .slice A4 t.f4.length c4, .int .i64 m, .slice none 0 0] 102));have HX8:=rn (dw.on (ai (rr _ _) (.cells #[.string t.f0, .slice A1 t.f1.length c1, .slice A2 t.f2.length c2, .slice A3 t.f3.length c3, .slice A4 t.f4.length c4, .int .i64 m, .slice none 0 0] 102)) (dw.on J HX.out));clear J;have hpl:=bH HPB7.out;have hp7:w8.cell? ⟨D.heap.size+1,7,none⟩=some (.slice U X V):=(ab HPB7.out 7).trans rfl;have hpf7:=au HPB7.out 7)|(at_builtin;refine ji w.heap.size 97 102 7 144 (.agg #[.string ⟨#[]⟩, .slice none 0 0, .slice none 0 0, .slice none 0 0, .slice none 0 0, .int .i64 0, .slice none 0 0]) Tryz.underlying97 (by kernel_rfl) rfl (by decide) (by decide) (by decide) _ _ _ [.string t.f0, .slice A1 t.f1.length c1, .slice A2 t.f2.length c2, .slice A3 t.f3.length c3, .slice A4 t.f4.length c4, .int .i64 m, .slice none 0 0] _ (by omega) rfl (by simp [Value.oneCell']) HX8.out HB8.out HB8.out.size rfl (by rfl) (by rfl) (by rw [kW];rfl) ?_;intro a9 n9 k9 w9 hp J hk;have HB9:=rn J;have HP9:=rn hp;have HK9:=rn hk;have HPB9:=rn (hk _ _ _ _ HPB8.out (by decide));clear hp J hk;have hpl9:=bH HPB9.out;have hp9:w9.cell? ⟨D.heap.size+1,7,none⟩=some (.slice U X V):=(ab HPB9.out 7).trans rfl;have hpf9:=au HPB9.out 7));have HE1:=rn (HB9.out.setCell (p:=⟨D.heap.size+1,7,none⟩) (by show w.heap.size≤D.heap.size+1;omega) (.slice a9 n9 k9));have HE2:=rn (az (HK9.out _ _ _ _ HR8.out (by decide)) (p:=⟨D.heap.size+1,7,none⟩) (by show w.heap.size≠D.heap.size+1;omega) (.slice a9 n9 k9));have HE3:=rn (az (HK9.out _ _ _ _ HD8.out (by decide)) (p:=⟨D.heap.size+1,7,none⟩) (by show w.heap.size+1≠D.heap.size+1;omega) (.slice a9 n9 k9));have HE4:=rn ((HP8.out.keep HK9.out (by decide)).far' HVT.out 7 (.slice a9 n9 k9));have HE5:=rn (al HPB9.out 7 (.slice a9 n9 k9) (cs':= #[.string t.f0, .slice A1 t.f1.length c1, .slice A2 t.f2.length c2, .slice A3 t.f3.length c3, .slice A4 t.f4.length c4, .int .i64 65536, .slice none 0 0, .slice a9 n9 k9]) rfl);have HE6:=rn ((HP9.out.far HPB9.out (by decide) 7 (.slice a9 n9 k9)).mono (show(m+1).toNat+1≤(m+1+1).toNat from by omega));go_roundw;case rel=>exact⟨m+1,_,by omega,by omega,by go_num,HE1,HE2,HE3,HE4,HE5,HE6⟩
      case measure=>simp [intOf];omega
     ·obtain⟨⟨U,X,V,rfl⟩,_⟩:=HP.out
      obtain⟨⟨xv,xn,xk,rfl⟩,_⟩:=HX.out;have hdl:=bH G.out;have hpl:=bH HPB.out;have hdc:wp.cell? ⟨w.heap.size+1,0,none⟩=some (.slice U X V):=(ab G.out 0).trans rfl;have hdf:=au G.out 0;have hpc0:wp.cell? ⟨D.heap.size+1,0,none⟩=some (.string t.f0):=(ab HPB.out 0).trans rfl;have hpc1:wp.cell? ⟨D.heap.size+1,1,none⟩=some (.slice A1 t.f1.length c1):=(ab HPB.out 1).trans rfl;have hpc2:wp.cell? ⟨D.heap.size+1,2,none⟩=some (.slice A2 t.f2.length c2):=(ab HPB.out 2).trans rfl;have hpc3:wp.cell? ⟨D.heap.size+1,3,none⟩=some (.slice A3 t.f3.length c3):=(ab HPB.out 3).trans rfl;have hpc4:wp.cell? ⟨D.heap.size+1,4,none⟩=some (.slice A4 t.f4.length c4):=(ab HPB.out 4).trans rfl;have hpc5:wp.cell? ⟨D.heap.size+1,5,none⟩=some (.int .i64 65536):=(ab HPB.out 5).trans rfl;have hpc6:wp.cell? ⟨D.heap.size+1,6,none⟩=some (.slice none 0 0):=(ab HPB.out 6).trans rfl;have hpc7:wp.cell? ⟨D.heap.size+1,7,none⟩=some (.slice xv xn xk):=(ab HPB.out 7).trans rfl;go_wp2_with (at_builtin;refine ji w.heap.size 54 99 8 168 (.agg #[.string ⟨#[]⟩, .slice none 0 0, .slice none 0 0, .slice none 0 0, .slice none 0 0, .int .i64 0, .slice none 0 0, .slice none 0 0]) Tryz.underlying54 (by kernel_rfl) rfl (by decide) (by decide) (by decide) _ _ _ [.string t.f0, .slice A1 t.f1.length c1, .slice A2 t.f2.length c2, .slice A3 t.f3.length c3, .slice A4 t.f4.length c4, .int .i64 65536, .slice none 0 0, .slice xv xn xk] _ (by omega) rfl (by simp [Value.oneCell']) HP.out y.out y.out.size rfl (by rfl) (by rfl) (by rfl) ?_;intro a9 n9 k9 w9 hp J hk;have HB9:=rn J;have HP9:=rn hp;have HK9:=rn hk;have HD9:=rn (hk _ _ _ _ G.out (by decide));clear hp J hk;have hdl9:=bH HD9.out;have hd9:w9.cell? ⟨w.heap.size+1,0,none⟩=some (.slice U X V):=(ab HD9.out 0).trans rfl;have hdf9:=au HD9.out 0);have HE1:=rn (HB9.out.setCell (p:=⟨w.heap.size+1,0,none⟩) (sa _) (.slice a9 n9 k9));have HE2:=rn (az (HK9.out _ _ _ _ z.out (by decide)) (p:=⟨w.heap.size+1,0,none⟩) (by simp) (.slice a9 n9 k9));have HE3:=rn (al HD9.out 0 (.slice a9 n9 k9) (cs':= #[.slice a9 n9 k9, .slice none 0 0, .int .i64 0, .int .u64 0, .int .u64 0, .slice none 0 0]) rfl);have HE4:=rn (HP9.out.far HD9.out (by decide) 0 (.slice a9 n9 k9));go_roundw;case rel=>exact⟨k+1,_,by omega,by go_num,HS,HE1,HE2,HE3,HE4⟩
      case measure=>simp [intOf];omega
   ·have hd5:(ce !=0)=true:=by rw [rH];exact hce0
    have HT:=rn (show r=ce from by
     have hf:=bO (fun i=>bh (l0.getD i z48)) l0.length k hlt HZ.out (by show bh (l0.getD k z48)≠0;rw [hx,hce];exact hce0);rw [←HE1.out,hf,rp (by show bh (l0.getD k z48)≠0;rw [hx,hce];exact hce0)];show bh (l0.getD k z48)=ce;rw [hx,hce])
    clear hce hx;go_wp2_with (go_at_call 36;refine(gu _ _ _ _ _ _ _ _ _ t.f1 t.f2 t.f3 t.f4 ce _ (HG.out.now y.out) (Kd.C_below HG1.out y.out) (Kd.C_below HG2.out y.out) (Kd.C_below HG3.out y.out) (Kd.C_below HG4.out y.out) e2 HOK.out HCE.out).mono ?_;rintro e w1 ⟨rfl,J⟩;have HB1:=rn (an y.out J);have Y:=rn (aQ z.out J);clear J;have hrl1:=bH Y.out;have hz0:w1.cell? ⟨w.heap.size,0,none⟩=some (.slice none 0 0):=(ab Y.out 0).trans rfl;have hzf0:=au Y.out 0;have hz1:w1.cell? ⟨w.heap.size,1,none⟩=some (.slice none 0 0):=(ab Y.out 1).trans rfl;have hzf1:=au Y.out 1;have hz2:w1.cell? ⟨w.heap.size,2,none⟩=some (.int .i64 0):=(ab Y.out 2).trans rfl;have hzf2:=au Y.out 2;have hz3:w1.cell? ⟨w.heap.size,3,none⟩=some (.int .u64 0):=(ab Y.out 3).trans rfl;have hzf3:=au Y.out 3;have hz4:w1.cell? ⟨w.heap.size,4,none⟩=some (.int .u64 0):=(ab Y.out 4).trans rfl;have hzf4:=au Y.out 4;have hz5:w1.cell? ⟨w.heap.size,5,none⟩=some (.slice none 0 0):=(ab Y.out 5).trans rfl;have hzf5:=au Y.out 5);have HF0:=Y.out;have HF1:=al HF0 0 (.slice none 0 0) (cs':= #[.slice none 0 0, .slice none 0 0, .int .i64 0, .int .u64 0, .int .u64 0, .slice none 0 0]) rfl;have HF2:=al HF1 1 (.slice none 0 0) (cs':= #[.slice none 0 0, .slice none 0 0, .int .i64 0, .int .u64 0, .int .u64 0, .slice none 0 0]) rfl;have HF3:=al HF2 2 (.int .i64 0) (cs':= #[.slice none 0 0, .slice none 0 0, .int .i64 0, .int .u64 0, .int .u64 0, .slice none 0 0]) rfl;have HF4:=al HF3 3 (.int .u64 0) (cs':= #[.slice none 0 0, .slice none 0 0, .int .i64 0, .int .u64 0, .int .u64 0, .slice none 0 0]) rfl;have HF5:=al HF4 4 (.int .u64 0) (cs':= #[.slice none 0 0, .slice none 0 0, .int .i64 0, .int .u64 0, .int .u64 0, .slice none 0 0]) rfl;have HF6:=al HF5 5 (.slice none 0 0) (cs':= #[.slice none 0 0, .slice none 0 0, .int .i64 0, .int .u64 0, .int .u64 0, .slice none 0 0]) rfl;have HBF:=((((((HB1.out.setCell (p:=⟨w.heap.size,0,none⟩) (rA _) (.slice none 0 0)).setCell (p:=⟨w.heap.size,1,none⟩) (rA _) (.slice none 0 0)).setCell (p:=⟨w.heap.size,2,none⟩) (rA _) (.int .i64 0)).setCell (p:=⟨w.heap.size,3,none⟩) (rA _) (.int .u64 0)).setCell (p:=⟨w.heap.size,4,none⟩) (rA _) (.int .u64 0)).setCell (p:=⟨w.heap.size,5,none⟩) (rA _) (.slice none 0 0));have hl:=run_loadVar_row (P:=Tryz.prog) _ w.heap.size 58 58 _ (0,0) _ HF6 hu58 rfl (by kernel_rfl);refine rN (v:= .tuple #[.agg #[.slice none 0 0, .slice none 0 0, .int .i64 0, .int .u64 0, .int .u64 0, .slice none 0 0], .int .i64 ce]) ?_ rfl ⟨_,_,_,_,_,_,_,_,_,_,_,_,by rw [HT.out],HBF⟩;simp [results,Tryz.results19,asAddr,hl]
  ·have hkl:k=l0.length:=by omega
   subst hkl;have HE2:=rn (show(if jb l0=true then 206 else 0)=r from by
    have:=HE1.out;rw [dE _ _ HZ.out]at this;simpa using this)
   obtain⟨⟨U,X,V,rfl⟩,_⟩:=HP.out;clear HE1 HZ HP hwl hrl hdl;go_wp2_with fail;go_loopw [13] (fun i wr=>∃p:Nat,p≤l0.length∧i= .int .i64 p∧Hid ((List.range p).any (fg l0)=false)∧Hid (Below w.heap.size w wr)∧Hid (wr.heap[w.heap.size]? =some (.cells #[.slice none 0 0, .slice none 0 0, .int .i64 0, .int .u64 0, .int .u64 0, .slice none 0 0] 58 (0,0)))∧Hid (wr.heap[w.heap.size+1]? =some (.cells #[.slice U X V, .slice none 0 0, .int .i64 0, .int .u64 0, .int .u64 0, .slice none 0 0] 58 (0,0)))) (fun i _=>l0.length-(intOf i).toNat);case atStart=>exact⟨0,rR _,rfl,rn rfl,y,z,G⟩
   case round=>
    clear y z G;obtain⟨wp,rfl⟩:∃wp:World,wp=wr:=⟨_,rfl⟩;obtain⟨p,hp,rfl,HZ,y,z,G⟩:=hrel;by_cases hlp:p<l0.length
    ·have HPN:=rn (gT l0 p hlp)
     go_wp2_with fail;go_loopw [14] (fun i wr=>∃q:Nat,q≤p∧i= .int .i64 q∧Hid ((l0.take q).any (fun t=>t.f0.toList==l0[p].f0.toList)=false)∧Hid (Below w.heap.size w wr)∧Hid (wr.heap[w.heap.size]? =some (.cells #[.slice none 0 0, .slice none 0 0, .int .i64 0, .int .u64 0, .int .u64 0, .slice none 0 0] 58 (0,0)))∧Hid (wr.heap[w.heap.size+1]? =some (.cells #[.slice U X V, .slice none 0 0, .int .i64 0, .int .u64 0, .int .u64 0, .slice none 0 0] 58 (0,0)))) (fun i _=>p-(intOf i).toNat);case atStart=>exact⟨0,rR _,rfl,rn rfl,y,z,G⟩
     case round=>
      clear y z G;obtain⟨wq,rfl⟩:∃wq:World,wq=wr:=⟨_,rfl⟩;obtain⟨q,hq,rfl,HQ,y,z,G⟩:=hrel;by_cases hlq:q<p
      ·have hlq2:q<l0.length:=by omega
       obtain⟨ad,A1,c1,A2,c2,A3,c3,A4,c4,rfl,Z,_⟩:=mv HR0.out p hlp;obtain⟨ad',A1',c1',A2',c2',A3',c3',A4',c4',hae,d0,_⟩:=mv HR0.out q hlq2;cases hae;replace Z:=aj y.out Z;replace d0:=aj y.out d0;have hq0:(0:Int)≤(q:Int):=(by omega);have hq1:(q:Int)<(l0.length:Int):=(by omega);have hp0:(0:Int)≤(p:Int):=(by omega);have hp1:(p:Int)<(l0.length:Int):=(by omega);cases he:(l0[q].f0.toList==l0[p].f0.toList)with
       |true=>
        have HT:=rn (show r=206 from by
         rw [←HE2.out,rp (by
          rw [jb,sb];refine⟨p,List.mem_range.2 hlp,?_⟩;rw [fg,HPN.out,sb];exact⟨l0[q],by rw [List.mem_take_iff_getElem];exact⟨q,by omega,rfl⟩,he⟩)])
        go_wp2_with fail;go_quiet (fail);have hrl:=bH z.out;have hz0:wq.cell? ⟨w.heap.size,0,none⟩=some (.slice none 0 0):=(ab z.out 0).trans rfl;have hzf0:=au z.out 0;have hz1:wq.cell? ⟨w.heap.size,1,none⟩=some (.slice none 0 0):=(ab z.out 1).trans rfl;have hzf1:=au z.out 1;have hz2:wq.cell? ⟨w.heap.size,2,none⟩=some (.int .i64 0):=(ab z.out 2).trans rfl;have hzf2:=au z.out 2;have hz3:wq.cell? ⟨w.heap.size,3,none⟩=some (.int .u64 0):=(ab z.out 3).trans rfl;have hzf3:=au z.out 3;have hz4:wq.cell? ⟨w.heap.size,4,none⟩=some (.int .u64 0):=(ab z.out 4).trans rfl;have hzf4:=au z.out 4;have hz5:wq.cell? ⟨w.heap.size,5,none⟩=some (.slice none 0 0):=(ab z.out 5).trans rfl;have hzf5:=au z.out 5;go_wp2_with fail;have HRQ:=rn (aH z.out nq);have HBQ:=rn (aq y.out nq);have HF0:=HRQ.out;have HF1:=al HF0 0 (.slice none 0 0) (cs':= #[.slice none 0 0, .slice none 0 0, .int .i64 0, .int .u64 0, .int .u64 0, .slice none 0 0]) rfl;have HF2:=al HF1 1 (.slice none 0 0) (cs':= #[.slice none 0 0, .slice none 0 0, .int .i64 0, .int .u64 0, .int .u64 0, .slice none 0 0]) rfl;have HF3:=al HF2 2 (.int .i64 0) (cs':= #[.slice none 0 0, .slice none 0 0, .int .i64 0, .int .u64 0, .int .u64 0, .slice none 0 0]) rfl;have HF4:=al HF3 3 (.int .u64 0) (cs':= #[.slice none 0 0, .slice none 0 0, .int .i64 0, .int .u64 0, .int .u64 0, .slice none 0 0]) rfl;have HF5:=al HF4 4 (.int .u64 0) (cs':= #[.slice none 0 0, .slice none 0 0, .int .i64 0, .int .u64 0, .int .u64 0, .slice none 0 0]) rfl;have HF6:=al HF5 5 (.slice none 0 0) (cs':= #[.slice none 0 0, .slice none 0 0, .int .i64 0, .int .u64 0, .int .u64 0, .slice none 0 0]) rfl;have HBF:=((((((HBQ.out.setCell (p:=⟨w.heap.size,0,none⟩) (rA _) (.slice none 0 0)).setCell (p:=⟨w.heap.size,1,none⟩) (rA _) (.slice none 0 0)).setCell (p:=⟨w.heap.size,2,none⟩) (rA _) (.int .i64 0)).setCell (p:=⟨w.heap.size,3,none⟩) (rA _) (.int .u64 0)).setCell (p:=⟨w.heap.size,4,none⟩) (rA _) (.int .u64 0)).setCell (p:=⟨w.heap.size,5,none⟩) (rA _) (.slice none 0 0));have hl:=run_loadVar_row (P:=Tryz.prog) _ w.heap.size 58 58 _ (0,0) _ HF6 hu58 rfl (by kernel_rfl);refine rN (v:= .tuple #[.agg #[.slice none 0 0, .slice none 0 0, .int .i64 0, .int .u64 0, .int .u64 0, .slice none 0 0], .int .i64 206]) ?_ rfl ⟨_,_,_,_,_,_,_,_,_,_,_,_,by rw [HT.out],HBF⟩;simp [results,Tryz.results19,asAddr,hl]
       |false=>
        have HQ2:=rn (show(l0.take (q+1)).any (fun t=>t.f0.toList==l0[p].f0.toList)=false from by rw [rM hlq2,se,HQ.out];simp [he]);go_wp2_with fail;go_quiet (fail);go_wp2_with fail;go_roundw;case rel=>exact⟨q+1,by omega,by go_num,HQ2,rn (aq y.out _),z,G⟩
        case measure=>simp [intOf];omega
      ·have hkq:q=p:=by omega
       subst hkq;have HZ2:=rn (show(List.range (q+1)).any (fg l0)=false from by rw [List.range_succ,se,HZ.out];simp [show fg l0 q=false from by rw [fg,HPN.out];exact HQ.out]);go_wp2_with fail;go_roundw;case rel=>exact⟨q+1,by omega,by go_num,HZ2,y,z,G⟩
       case measure=>simp [intOf];omega
    ·have hkp:p=l0.length:=by omega
     subst hkp;have HT:=rn (show r=0 from by rw [←HE2.out,rq (by rw [jb,HZ.out];decide)]);have hrl:=bH z.out;have hz0:wp.cell? ⟨w.heap.size,0,none⟩=some (.slice none 0 0):=(ab z.out 0).trans rfl;have hzf0:=au z.out 0;have hz1:wp.cell? ⟨w.heap.size,1,none⟩=some (.slice none 0 0):=(ab z.out 1).trans rfl;have hzf1:=au z.out 1;have hz2:wp.cell? ⟨w.heap.size,2,none⟩=some (.int .i64 0):=(ab z.out 2).trans rfl;have hzf2:=au z.out 2;have hz3:wp.cell? ⟨w.heap.size,3,none⟩=some (.int .u64 0):=(ab z.out 3).trans rfl;have hzf3:=au z.out 3;have hz4:wp.cell? ⟨w.heap.size,4,none⟩=some (.int .u64 0):=(ab z.out 4).trans rfl;have hzf4:=au z.out 4;have hz5:wp.cell? ⟨w.heap.size,5,none⟩=some (.slice none 0 0):=(ab z.out 5).trans rfl;have hzf5:=au z.out 5;have hy0:wp.cell? ⟨w.heap.size+1,0,none⟩=some (.slice U X V):=(ab G.out 0).trans rfl;have hyf0:=au G.out 0;have hy1:wp.cell? ⟨w.heap.size+1,1,none⟩=some (.slice none 0 0):=(ab G.out 1).trans rfl;have hyf1:=au G.out 1;have hy2:wp.cell? ⟨w.heap.size+1,2,none⟩=some (.int .i64 0):=(ab G.out 2).trans rfl;have hyf2:=au G.out 2;have hy3:wp.cell? ⟨w.heap.size+1,3,none⟩=some (.int .u64 0):=(ab G.out 3).trans rfl;have hyf3:=au G.out 3;have hy4:wp.cell? ⟨w.heap.size+1,4,none⟩=some (.int .u64 0):=(ab G.out 4).trans rfl;have hyf4:=au G.out 4;have hy5:wp.cell? ⟨w.heap.size+1,5,none⟩=some (.slice none 0 0):=(ab G.out 5).trans rfl;have hyf5:=au G.out 5;go_wp2_with fail;have HF0:=z.out;have HF1:=al HF0 0 (.slice U X V) (cs':= #[.slice U X V, .slice none 0 0, .int .i64 0, .int .u64 0, .int .u64 0, .slice none 0 0]) rfl;have HF2:=al HF1 1 (.slice none 0 0) (cs':= #[.slice U X V, .slice none 0 0, .int .i64 0, .int .u64 0, .int .u64 0, .slice none 0 0]) rfl;have HF3:=al HF2 2 (.int .i64 0) (cs':= #[.slice U X V, .slice none 0 0, .int .i64 0, .int .u64 0, .int .u64 0, .slice none 0 0]) rfl;have HF4:=al HF3 3 (.int .u64 0) (cs':= #[.slice U X V, .slice none 0 0, .int .i64 0, .int .u64 0, .int .u64 0, .slice none 0 0]) rfl;have HF5:=al HF4 4 (.int .u64 0) (cs':= #[.slice U X V, .slice none 0 0, .int .i64 0, .int .u64 0, .int .u64 0, .slice none 0 0]) rfl;have HF6:=al HF5 5 (.slice none 0 0) (cs':= #[.slice U X V, .slice none 0 0, .int .i64 0, .int .u64 0, .int .u64 0, .slice none 0 0]) rfl;have HBF:=((((((y.out.setCell (p:=⟨w.heap.size,0,none⟩) (rA _) (.slice U X V)).setCell (p:=⟨w.heap.size,1,none⟩) (rA _) (.slice none 0 0)).setCell (p:=⟨w.heap.size,2,none⟩) (rA _) (.int .i64 0)).setCell (p:=⟨w.heap.size,3,none⟩) (rA _) (.int .u64 0)).setCell (p:=⟨w.heap.size,4,none⟩) (rA _) (.int .u64 0)).setCell (p:=⟨w.heap.size,5,none⟩) (rA _) (.slice none 0 0));have hl:=run_loadVar_row (P:=Tryz.prog) _ w.heap.size 58 58 _ (0,0) _ HF6 hu58 rfl (by kernel_rfl);refine rN (v:= .tuple #[.agg #[.slice U X V, .slice none 0 0, .int .i64 0, .int .u64 0, .int .u64 0, .slice none 0 0], .int .i64 0]) ?_ rfl ⟨_,_,_,_,_,_,_,_,_,_,_,_,by rw [HT.out],HBF⟩;simp [results,Tryz.results19,asAddr,hl]
theorem fF(l:List Int)(x:S84×List Int)(h:fe l=some x):fi l=some x:=by
 cases l with
 |nil=>cases h
 |cons b l=>
 rw [fe]at h;rw [fi];by_cases h1:b=1;·rw [rp h1]at h⊢;exact h
 rw [rq h1]at h⊢;by_cases z:b=2
 ·rw [rp z]at h⊢
  split at h;·cases h
  ·rw [rp (by omega)];exact h
 rw [rq z]at h⊢;by_cases D:b=3
 ·rw [rp D]at h⊢
  cases hg:gn l with
  |none=>rw [hg]at h;cases h
  |some y=>
   have r:jM l=some y:=by
    cases l with
    |nil=>cases hg
    |cons c l=>
     rw [gn]at hg;rw [jM];unfold gN at hg;unfold oN;by_cases q:8<(c-128).natAbs;·rw [rp q]at hg;cases hg
     rw [rq q]at hg⊢;by_cases r:l.length<(c-128).natAbs;·rw [rp r]at hg;cases hg
     rw [rq r]at hg⊢;split at hg;case isFalse=>cases hg
     rename_i V;rw [rq (by omega)];exact hg
   rw [hg]at h;rw [r];exact h
 rw [rq D]at h⊢;by_cases G:b=4
 ·rw [rp G]at h⊢
  unfold i_ at h;unfold oO;by_cases q:l.length<8;·rw [rp q]at h;cases h
  rw [rq q]at h⊢;split at h;·exact h
  ·cases h
 rw [rq G]at h⊢;by_cases J:b=5∨b=6
 ·rw [rp J]at h⊢
  cases U:unE [] l with
  |none=>rw [U]at h;cases h
  |some y=>
   rw [U]at h;simp only [Option.bind_some]at h;split at h;·exact h
   ·cases h
 ·rw [rq J]at h;cases h
theorem nk(l:List Int)(q:Bt l)(w:Int)(r:List Int)(h:jM l=some (w,r)): -9223372036854775808≤w∧w≤9223372036854775807∧∃p,l=p++r:=by
 cases l with
 |nil=>cases h
 |cons c l=>
  rw [jM]at h;unfold oN at h;split at h;·cases h
  split at h;·cases h
  split at h;·cases h
  simp only [Option.some.injEq,Prod.mk.injEq]at h;obtain⟨rfl,rfl⟩:=h;refine⟨by split<;>omega,by split<;>omega,c::l.take (c-128).natAbs,by simp⟩
theorem mq(l:List Int)(z:Bt l)(v:S84)(r:List Int)(Y:l.length≤1024)(h:fi l=some (v,r)):RV v∧∃p,l=p++r∧p≠ []:=by
 cases l with
 |nil=>cases h
 |cons b l=>
 have y:(⟨#[]⟩:ByteArray).size≤9223372036854775807:=by decide
 rw [fi]at h;by_cases h1:b=1
 ·rw [rp h1]at h
  simp only [Option.some.injEq,Prod.mk.injEq]at h;obtain⟨rfl,rfl⟩:=h;exact⟨⟨by simp,by simp,by simp,y⟩,[b],rfl,by simp⟩
 rw [if_neg h1]at h;by_cases G:b=2
 ·rw [rp G]at h
  cases l with
  |nil=>simp at h
  |cons c l=>
   have hc:=z.tail.head;have hg:(c::l).getD 0 2=c:=rfl;rw [hg]at h;split at h
   ·simp only [Option.some.injEq,Prod.mk.injEq]at h
    obtain⟨rfl,rfl⟩:=h;exact⟨⟨by simp only;omega,by simp only;omega,by simp,y⟩,[b,c],rfl,by simp⟩
   ·cases h
 rw [if_neg G]at h;by_cases J:b=3
 ·rw [rp J]at h
  cases hg:jM l with
  |none=>rw [hg]at h;cases h
  |some x=>
   rw [hg]at h;obtain⟨w,q⟩:=x;simp only [Option.map_some,Option.some.injEq,Prod.mk.injEq]at h;obtain⟨rfl,rfl⟩:=h;obtain⟨Z,X,p,hp⟩:=nk l z.tail w q hg;exact⟨⟨Z,X,by simp,y⟩,b::p,by rw [hp];rfl,by simp⟩
 rw [if_neg J]at h;by_cases U:b=4
 ·rw [rp U]at h
  unfold oO at h;split at h;·cases h
  rename_i h8;simp only [Option.map_some,Option.some.injEq,Prod.mk.injEq]at h;obtain⟨rfl,rfl⟩:=h;have av:(l.take 8).length=8:=by rw [r8];omega
  have ap:=eW (z.tail.take 8);rw [av]at ap;exact⟨⟨by simp,by simp,pd _ (by omega),y⟩,b::l.take 8,by simp,by simp⟩
 rw [if_neg U]at h;by_cases V:b=5∨b=6
 ·rw [rp V]at h
  cases D:unE [] l with
  |none=>rw [D]at h;cases h
  |some x=>
   rw [D]at h;obtain⟨t,q⟩:=x;simp only [Option.map_some,Option.some.injEq,Prod.mk.injEq]at h;obtain⟨rfl,rfl⟩:=h;obtain⟨am,p,hp⟩:=k7 l.length l (rA _) [] t q D;simp only [List.length_nil,List.length_cons]at am Y;refine⟨⟨by simp,by simp,by simp,?_⟩,b::p,by rw [hp];rfl,by simp⟩;show t.toArray.size≤_;simp;omega
 ·rw [rq V]at h;cases h
theorem lx(b:Nat):fC (fC b)=fC b:=by
 have q:fC 0=0:=by decide+kernel
 have h1:fC 9221120237041090560=9221120237041090560:=by decide+kernel
 by_cases r:(FloatKind.f64.format.order b 0==some .eq)=true
 ·have:fC b=fC 0:=by
   unfold fC;have h:ev b=0:=(by unfold ev;rw [rp r]);have y:ev 0=0:=(by decide+kernel);rw [h,y]
  rw [this,q,q]
 ·have h:ev b=b:=by unfold ev;rw [rq r]
  by_cases hn:(FloatKind.f64.format.order b b !=some .eq)=true
  ·have:fC b=9221120237041090560:=by unfold fC;rw [h];unfold fN;rw [rp hn]
   rw [this,h1]
  ·have:fC b=b:=by unfold fC;rw [h];unfold fN;rw [rq hn]
   rw [this,this]
def can(v:S84):S84:=if v.f0=3 then⟨v.f0,v.f1,fC v.f2,v.f3⟩else v
theorem pT(v:S84):cV (can v)=cV v:=by
 unfold can;split
 ·rename_i h
  unfold cV cT;simp only [h,lx]
 ·rfl
theorem pS{v:S84}(h:VOk v):Can (can v):=by
 unfold can;split
 ·rename_i r
  refine⟨⟨?_,h.lo,h.hi,pe _ h.fl⟩,fun _=>lx _⟩;have z:=h.bad;refine d_ ?_ z.2;have y:=z.1;unfold bw at y⊢;simp only at y⊢;intro q;apply y;rcases q with q|q|q|q|q|q|q;·exact Or.inl q
  ·exact Or.inr (Or.inl q)
  ·exact Or.inr (Or.inr (Or.inl q))
  ·exact Or.inr (Or.inr (Or.inr (Or.inl q)))
  ·exact absurd r q.1
  ·exact Or.inr (Or.inr (Or.inr (Or.inr (Or.inr (Or.inl q)))))
  ·exact Or.inr (Or.inr (Or.inr (Or.inr (Or.inr (Or.inr q)))))
 ·rename_i r
  exact⟨h,fun e=>absurd e r⟩
theorem ft(vs:List S84)(h:∀v∈vs,Can v):(vs.flatMap cV).getD 0 0≠255:=by
 cases vs with
 |nil=>decide
 |cons v vs=>rw [sD];exact o3 v (h v (rW ..)).ok _
theorem qz(v:S84):cV v≠ []:=by unfold cV;simp
theorem pR:∀(n:Nat) (l:List Int),l.length≤n→Bt l→l.length≤1024→∀(k:Nat) (D:List S84),n+40≤k→D.length+l.length≤100000→∃V,bm.l0 k (strOfNums l) D=some V∧((∃vs:List S84,(∀v∈vs,Can v)∧l=vs.flatMap cV∧V=(D++vs,0))∨(V=([],20)∧¬∃vs:List S84,(∀v∈vs,Can v)∧l=vs.flatMap cV)):=by
 intro n
 induction n with
 |zero=>
  intro l hn G hl k D hk hx;obtain⟨k,rfl⟩:∃m,k=m+1:=⟨k-1,by omega⟩;have:l= []:=r7 (by omega);subst this;unfold bm.l0;rw [cy,rq (by decide)];exact⟨_,rfl,Or.inl ⟨[],by simp,rfl,by simp⟩⟩
 |succ n ih=>
  intro l hn G hl k D hk hx;cases l with
  |nil=>
   obtain⟨k,rfl⟩:∃m,k=m+1:=⟨k-1,by omega⟩;unfold bm.l0;rw [cy,rq (by decide)];exact⟨_,rfl,Or.inl ⟨[],by simp,rfl,by simp⟩⟩
  |cons b l=>
   obtain⟨k,rfl⟩:∃m,k=m+1:=⟨k-1,by omega⟩;simp only [List.length_cons]at hn hl hx;obtain⟨q,hq,hg⟩:=pP k (by omega) b l G (by omega);unfold bm.l0;rw [cy,rp (by simp only [List.length_cons];omega),hq,rG];cases U:fe (b::l)with
   |none=>
    rw [U]at hg;have Z:q.2.2.2.2.2=false:=hg;rw [Z,rq (by decide)];refine⟨_,rfl,Or.inr ⟨rfl,?_⟩⟩;rintro⟨vs,y,h⟩;cases vs with
    |nil=>cases h
    |cons v vs=>
     rw [sD]at h;have:=fq v (y v (rW ..)) (vs.flatMap cV) (ft vs fun u J=>y u (rX _ J));rw [←h,U]at this;cases this
   |some x=>
    obtain⟨v,r⟩:=x;rw [U]at hg;have Z:q=(v.f0,v.f1,v.f2,v.f3,strOfNums r,true):=hg;subst Z;obtain⟨hcv,am⟩:=kM _ G v r U;have hlen:(cV v).length+r.length=l.length+1:=(by have:=congrArg List.length am;simp only [List.length_append,List.length_cons]at this;omega);have hc1:1≤(cV v).length:=(by unfold cV;simp);rw [if_pos rfl,if_pos (by omega)];have hbr:Bt r:=(by rw [am]at G;exact G.suf);obtain⟨V,h1,h2⟩:=ih r (by omega) hbr (by omega) k (D++ [v]) (by omega) (by rw [rO];simp;omega);refine⟨V,h1,?_⟩;rcases h2 with⟨vs,X,Y,hc2⟩|⟨X,Y⟩
    ·refine Or.inl ⟨v::vs,?_,?_,?_⟩
     ·intro u J
      rcases List.mem_cons.1 J with rfl|J;·exact hcv
      ·exact X u J
     ·rw [am,Y];rfl
     ·rw [hc2];simp
    ·refine Or.inr ⟨X,?_⟩
     rintro⟨vs,y,h⟩;cases vs with
     |nil=>cases h
     |cons u vs=>
      rw [sD]at h;have:=fq u (y u (rW ..)) (vs.flatMap cV) (ft vs fun z hz=>y z (rX _ hz));rw [←h,U]at this;simp only [Option.some.injEq,Prod.mk.injEq]at this;exact Y ⟨vs,fun z hz=>y z (rX _ hz),this.2⟩
theorem hD{a b:ByteArray}(h:a.toList=b.toList):a=b:=by
 apply sG;apply Array.toList_inj.1;rw [←sk,←sk,h]
theorem nO(vs:List S84)(h:∀v∈vs,Can v)(q:(vs.flatMap cV).length≤1024):eD vs=(strOfNums (vs.flatMap cV),0):=by
 unfold eD;have:vs.any gM=false:=by
  rw [List.any_eq_false];intro v r;simp [gM,(h v r).ok.chk]
 rw [this,rq (by decide),nN vs [] (by simpa using q)];rfl
theorem pD(l:List Int)(hb:Bt l)(hl:l.length≤1024):∀(n p k:Nat) (h:List S84),p≤l.length→l.length-p≤n→n+80000≤k→(∀v∈h,RV v)→h.length≤p→∃D,aV.l0 k (strOfNums l) h p=some D∧(D=([],20)∨∃x:List S84,(∀v∈x,RV v)∧D=(x,0)∧eD x=(strOfNums l,0))∧(∀vs:List S84,(∀v∈vs,Can v)→l.drop p=vs.flatMap cV→(∀v∈h,Can v)→l=(h++vs).flatMap cV→D=(h++vs,0)):=by
 have atEnd:∀(p k:Nat) (h:List S84),p=l.length→79000≤k→(∀v∈h,RV v)→h.length≤p→∃D,aV.l0 (k+1) (strOfNums l) h p=some D∧(D=([],20)∨∃x:List S84,(∀v∈x,RV v)∧D=(x,0)∧eD x=(strOfNums l,0))∧(∀vs:List S84,(∀v∈vs,Can v)→l.drop p=vs.flatMap cV→(∀v∈h,Can v)→l=(h++vs).flatMap cV→D=(h++vs,0)):=by
  intro p k h hp hk hr hx;unfold aV.l0;rw [cy,rq (by omega),fD h (by omega) hr k (by omega),rG];have third:∀vs:List S84,(∀v∈vs,Can v)→l.drop p=vs.flatMap cV→(∀v∈h,Can v)→l=(h++vs).flatMap cV→vs= []∧eD h=(strOfNums l,0):=by
   intro vs h1 y V J;have Y:vs= []:=by
    cases vs with
    |nil=>rfl
    |cons v vs=>
     rw [rS (by omega)]at y;exact absurd (List.append_eq_nil_iff.1 y.symm).1 (qz v)
   subst Y;rw [List.append_nil]at J;refine⟨rfl,?_⟩;rw [nO h V (by rw [←J];exact hl),←J]
  by_cases he:(eD h).2=0
  ·rw [rp he]
   by_cases hs:(eD h).1.toList=(strOfNums l).toList
   ·rw [rp hs]
    have e:eD h=(strOfNums l,0):=Prod.ext (hD hs) he;refine⟨_,rfl,Or.inr ⟨h,hr,rfl,e⟩,?_⟩;intro vs h1 y V J;rw [(third vs h1 y V J).1,List.append_nil]
   ·rw [rq hs]
    refine⟨_,rfl,Or.inl rfl,?_⟩;intro vs h1 y V J;exact absurd (by rw [(third vs h1 y V J).2]) hs
  ·rw [rq he]
   refine⟨_,rfl,Or.inl rfl,?_⟩;intro vs h1 y V J;exact absurd (by rw [(third vs h1 y V J).2]) he
 intro n
 induction n with
 |zero=>
  intro p k h hp hn hk hr hx;obtain⟨k,rfl⟩:∃m,k=m+1:=⟨k-1,by omega⟩;by_cases hpe:p=l.length;·exact atEnd p k h hpe (by omega) hr hx
  ·omega
 |succ n ih=>
  intro p k h hp hn hk hr hx;obtain⟨k,rfl⟩:∃m,k=m+1:=⟨k-1,by omega⟩;by_cases hpe:p=l.length;·exact atEnd p k h hpe (by omega) hr hx
  obtain⟨q,Z⟩:∃q,l.drop p=q:=⟨_,rfl⟩;have hql:q.length=l.length-p:=by rw [←Z,sq]
  have hbq:Bt q:=by rw [←Z];exact hb.drop p
  have hex:(strOfNums l).extract ((p:Nat):Int).toNat (strOfNums l).size=strOfNums q:=by rw [ff,dv hb,sm,Z]
  cases q with
  |nil=>simp only [List.length_nil]at hql;omega
  |cons c q=>
   simp only [List.length_cons]at hql;obtain⟨r,h1,y⟩:=o4 k (by omega) c q hbq (by omega);unfold aV.l0;rw [cy,rp (by omega),rp (by omega),rp (by omega),←cy l,hex,h1,rG];cases Y:fi (c::q)with
   |none=>
    rw [Y]at y;have h2':r.2.2.2.2=0:=y;rw [rp h2'];refine⟨_,rfl,Or.inl rfl,?_⟩;intro vs g1 G _ _;rw [Z]at G;cases vs with
    |nil=>cases G
    |cons v vs=>
     rw [sD]at G;have:=fF _ _ (fq v (g1 v (rW ..)) (vs.flatMap cV) (ft vs fun u X=>g1 u (rX _ X)));rw [←G,Y]at this;cases this
   |some x=>
    obtain⟨v,rest⟩:=x;rw [Y]at y;have h2':r=(v.f0,v.f1,v.f2,v.f3,((q.length+1-rest.length:Nat):Int)):=y;subst h2';obtain⟨hrv,p2,hp2,hne⟩:=mq _ hbq v rest (by simp only [List.length_cons];omega) Y;have hpl:1≤p2.length:=by
     cases p2 with
     |nil=>exact absurd rfl hne
     |cons _ _=>simp
    have hlen:q.length+1=p2.length+rest.length:=(by have:=congrArg List.length hp2;simp only [List.length_cons,List.length_append]at this;exact this);have hd:l.drop (p+(q.length+1-rest.length))=rest:=by
     rw [←List.drop_drop,Z,hp2,show q.length+1-rest.length=p2.length from by omega,List.drop_left]
    have hw:wrap64 ((p:Int)+((q.length+1-rest.length:Nat):Int))=((p+(q.length+1-rest.length):Nat):Int):=(by unfold wrap64;omega);rw [rq (by simp only;omega),rp (by omega)];show∃D,aV.l0 k (strOfNums l) (h++ [v]) (wrap64 ((p:Int)+((q.length+1-rest.length:Nat):Int)))=some D∧_;rw [hw];obtain⟨D,k1,k2,k3⟩:=ih (p+(q.length+1-rest.length)) k (h++ [v]) (by omega) (by omega) (by omega) (by
     intro u X;rcases List.mem_append.1 X with X|X;·exact hr u X
     ·rw [List.mem_singleton.1 X];exact hrv) (by rw [rO];simp;omega)
    refine⟨D,k1,k2,?_⟩;intro vs g1 G g3 g4;rw [Z]at G;cases vs with
    |nil=>cases G
    |cons u vs=>
     rw [sD]at G;have:=fF _ _ (fq u (g1 u (rW ..)) (vs.flatMap cV) (ft vs fun z U=>g1 z (rX _ U)));rw [←G,Y]at this;simp only [Option.some.injEq,Prod.mk.injEq]at this;obtain⟨rfl,rfl⟩:=this;have:=k3 vs (fun z U=>g1 z (rX _ U)) hd (by
      intro z U;rcases List.mem_append.1 U with U|U;·exact g3 z U
      ·rw [List.mem_singleton.1 U];exact g1 v (rW ..)) (by rw [g4];simp)
     rw [this];simp
theorem oZ(x:List S84)(hr:∀v∈x,RV v)(s:ByteArray)(h:eD x=(s,0)):(∀v∈x,VOk v)∧s=strOfNums (x.flatMap cV):=by
 unfold eD at h;cases q:x.any gM with
 |true=>rw [q,rp rfl]at h;simp at h
 |false=>
  rw [q,if_neg (by decide)]at h;exact⟨fO hr q,by have:=(lz x [] s h).1;simpa using this⟩
theorem qA(v:S84)(h:VOk v):Bt (cV v):=by
 have y:=h.kind;have z:=h.lo;have r:=h.hi;intro x q;unfold cV at q;rcases List.mem_cons.1 q with rfl|q;·omega
 unfold cT at q;split at q
 ·rename_i h1
  have:=h.bool h1;rw [List.mem_singleton.1 q];omega
 split at q
 ·unfold cI at q
  split at q
  ·rename_i hn
   have:=eo 8 v.f1.toNat (by omega);rcases List.mem_cons.1 q with rfl|q;·omega
   ·exact nH _ _ x q
  ·have:=eo 8 (-(v.f1+1)).toNat (by omega)
   rcases List.mem_cons.1 q with rfl|q;·omega
   ·exact nH _ _ x q
 split at q;·exact nH _ _ x q
 split at q
 ·unfold cS at q
  rcases List.mem_append.1 q with q|q;·exact qj _ x q
  ·rw [List.mem_singleton.1 q];omega
 ·cases q
theorem jV(k:Nat)(hk:90000≤k)(s:ByteArray):∃Y,bm.f k s=some Y∧aV.f k s=some Y:=by
 unfold bm.f aV.f;by_cases q:(s.size:Int)>1024;·rw [rp q,rp q];exact⟨_,rfl,rfl⟩
 rw [rq q,rq q];have X:=Bt.of s;have hl:(br s).length=s.size:=bS s;obtain⟨r1,U,h1⟩:=pR (br s).length (br s) (rA _) X (by omega) k [] (by omega) (by simp;omega);obtain⟨r2,V,z,h3⟩:=pD (br s) X (by omega) (br s).length 0 k [] (by omega) (by omega) (by omega) (by simp) (by simp);rw [eh]at U V;refine⟨r1,U,?_⟩;have am:aV.l0 k s [] 0=some r2:=V;rw [am];congr 1;rcases h1 with⟨vs,r,h,a3⟩|⟨r,h⟩
 ·rw [a3]
  exact h3 vs r (by rw [sH];exact h) (by simp) (by rw [List.nil_append];exact h)
 ·rcases z with z|⟨x,Z,b2,J⟩
  ·rw [z,r]
  ·exfalso
   apply h;rw [eh]at J;obtain⟨c1,c2⟩:=oZ x Z s J;refine⟨x.map can,?_,?_⟩
   ·intro v hv
    obtain⟨u,D,rfl⟩:=List.mem_map.1 hv;exact pS (c1 u D)
   ·rw [c2,dv (by
     intro y G;obtain⟨u,D,G⟩:=List.mem_flatMap.1 G;exact qA u (c1 u D) y G),List.flatMap_map]
    congr 1;funext u;exact(pT u).symm
def mk(v:S84):Int:=if v.f0=0 then 0 else if v.f0=1 then(if v.f1=1 then 2 else 1)else 1
theorem oK(v:S84):ep.f v.f0 v.f1 v.f2 v.f3=some (mk v):=by
 unfold ep.f mk;split;·rfl
 split;·split<;>rfl
 ·rfl
theorem oJ(v:S84):cL.f v.f0 v.f1 v.f2 v.f3=some (mk v):=by
 unfold cL.f mk;split;·rfl
 split;·split<;>rfl
 ·rfl
def pt(v:S84):List Int:=if v.f0=2 then vL (zz v.f1)else if v.f0=3 then lB 8 v.f2 else if v.f0=4∨v.f0=5 then vL v.f3.size++br v.f3 else []
theorem kx{v:S84}(h:VOk v):(pt v).length≤65546:=by
 have r:=h.bad.2;have h1:=eN (zz v.f1) (mD _ h.lo h.hi);have q:=eN v.f3.size (by omega);unfold pt;split;·omega
 split;·rw [kE];omega
 split;·simp only [List.length_append,bS];omega
 ·simp
theorem jq(n:Nat)(h:n<18446744073709551616):IntKind.u64.wrap ((n:Nat):Int)=(n:Int):=by rw [bP];omega
theorem pw(k:Nat)(D:10≤k)(l0:List Int)(v:S84)(h:VOk v)(U:l0.length<140737400000000):dh.f k l0 v.f0 v.f1 v.f2 v.f3=some (l0++pt v):=by
 have V:=h.bad.2;have hp:=kx h;unfold dh.f pt;by_cases q:v.f0=2;·rw [rp q,rp q,lM _ h.lo h.hi,rG,gz k _ _ D (mD _ h.lo h.hi) (by omega)];rfl
 rw [rq q,rq q];by_cases r:v.f0=3
 ·have:=lX v.f2 8 0 k l0 (by omega) (by omega) (by omega)
  have e:b7.f k l0 (v.f2:Int)=some (l0++lB 8 v.f2):=by rw [Nat.pow_zero,Nat.div_one]at this;exact this
  rw [rp r,rp r,e];rfl
 rw [rq r,rq r];have G:=gz k v.f3.size l0 D (by omega) (by omega);have q:=eN v.f3.size (by omega);by_cases y:v.f0=4;·rw [rp y,rp (Or.inl y),jq _ (by omega),G,rG,rp (by rw [rO];omega),rZ]
 rw [rq y];by_cases z:v.f0=5;·rw [rp z,rp (Or.inr z),jq _ (by omega),G,rG,rp (by rw [rO];omega),rZ]
 have J:¬(v.f0=4∨v.f0=5):=by omega
 rw [rq z,rq J,List.append_nil]
theorem qa(n:Nat):∀(d i k:Nat) (h:List Int),i+d=8→d<k→h.length+d<140737488355328→a8.l0 k h n i=some (h++lB d (n/256^i)):=by
 intro d
 induction d with
 |zero=>
  intro i k h hi q r;obtain⟨k,rfl⟩:∃m,k=m+1:=⟨k-1,by omega⟩;rw [a8.l0,rq (by omega)];simp [lB]
 |succ d y=>
  intro i k h hi q r;obtain⟨k,rfl⟩:∃m,k=m+1:=⟨k-1,by omega⟩;rw [a8.l0,rp (by omega),w8 i (by omega),jq _ (by omega),rp (by omega),rp (by omega),lT n i (by omega),w1 i (by omega),y (i+1) k _ (by omega) (by omega) (by rw [rO];simp;omega)];rw [lB,rZ,Nat.div_div_eq_div_mul,←r_];rfl
theorem oe(k:Nat)(D:10≤k)(v:S84)(h:VOk v):a8.f k v.f0 v.f1 v.f2 v.f3=some (pt v):=by
 have U:=h.bad.2;unfold a8.f pt;by_cases q:v.f0=2;·rw [rp q,rp q,iC _ h.lo h.hi,rG,e8 k _ D (mD _ h.lo h.hi)];rfl
 rw [rq q,rq q];by_cases r:v.f0=3
 ·have:=qa v.f2 8 0 k [] (by omega) (by omega) (by simp)
  have e:a8.l0 k [] (v.f2:Int) 0=some (lB 8 v.f2):=by simpa using this
  rw [if_pos r,if_pos r,e]
 rw [rq r,rq r];have G:=e8 k v.f3.size D (by omega);have q:=eN v.f3.size (by omega);by_cases y:v.f0=4;·rw [rp y,rp (Or.inl y),jq _ (by omega),G,rG,rp (by omega)]
 rw [rq y];by_cases z:v.f0=5;·rw [rp z,rp (Or.inr z),jq _ (by omega),G,rG,rp (by omega)]
 have J:¬(v.f0=4∨v.f0=5):=by omega
 rw [rq z,rq J]
def pk(x:List Int):Nat→List S84→List Int
 |_,[]=>x
 |i,v::l=>pk (x.set (i/4) (Go.bits .or .u8 (rd x ((i/4:Nat):Int)) (shl .u8 (mk v) ((2*(i%4):Nat):Int)))) (i+1) l
def lV(l:List S84):List Int:=pk (List.replicate ((l.length+3)/4) 0) 0 l++l.flatMap pt
theorem oB(l:List S84)(z:l.length≤64)(hr:∀v∈l,VOk v):∀(d i k:Nat) (x:List Int),i+d=l.length→d+13<k→x.length≤16+i*65546→bf.l1 k x l l.length i=some (x++(l.drop i).flatMap pt):=by
 intro d
 induction d with
 |zero=>
  intro i k x hi q r;obtain⟨k,rfl⟩:∃m,k=m+1:=⟨k-1,by omega⟩;rw [bf.l1,rq (by omega),rS (by omega)];simp
 |succ d y=>
  intro i k x hi q r;obtain⟨k,rfl⟩:∃m,k=m+1:=⟨k-1,by omega⟩;have h:=hr _ (f_ l i (by omega));have hp:=kx h;rw [bf.l1,rp (by omega),rp (by omega),rp (by omega),pw k (by omega) x _ h (by omega),rG,gp l i (by omega),w1 i (by omega),y (i+1) k _ (by omega) (by omega) (by rw [rO];omega)];simp
theorem mS(l:List S84)(z:l.length≤64)(hr:∀v∈l,VOk v):∀(d i k:Nat) (x:List Int),i+d=l.length→d+13<k→x.length≤16+i*65546→aG.l1 k l x i=some (x++(l.drop i).flatMap pt):=by
 intro d
 induction d with
 |zero=>
  intro i k x hi q r;obtain⟨k,rfl⟩:∃m,k=m+1:=⟨k-1,by omega⟩;rw [aG.l1,rq (by omega),rS (by omega)];simp
 |succ d y=>
  intro i k x hi q r;obtain⟨k,rfl⟩:∃m,k=m+1:=⟨k-1,by omega⟩;have h:=hr _ (f_ l i (by omega));have hp:=kx h;rw [aG.l1,rp (by omega),rp (by omega),oe k (by omega) _ h,rG,rp (by omega),gp l i (by omega),w1 i (by omega),y (i+1) k _ (by omega) (by omega) (by rw [rO];omega)];simp
theorem q4(i:Nat)(h:i<64):wrap64 (Int.tdiv (i:Int) 4)=((i/4:Nat):Int):=by
 rw [sf (by omega)];unfold wrap64;omega
theorem r4(i:Nat)(h:i<64):wrap64 (2*(Int.tmod (i:Int) 4))=((2*(i%4):Nat):Int):=by
 rw [su (by omega)];unfold wrap64;omega
theorem r4'(i:Nat)(h:i<64):IntKind.u64.wrap (wrap64 ((Int.tmod (i:Int) 4)*2))=((2*(i%4):Nat):Int):=by
 rw [su (by omega),bP];unfold wrap64;omega
theorem oC(l:List S84)(r:l.length≤64)(hr:∀v∈l,VOk v):∀(d i k:Nat) (x:List Int),i+d=l.length→d+100<k→x.length=(l.length+3)/4→bf.l0 k l x l l.length i=some (pk x i (l.drop i)++l.flatMap pt):=by
 intro d
 induction d with
 |zero=>
  intro i k x hi q h;obtain⟨k,rfl⟩:∃m,k=m+1:=⟨k-1,by omega⟩;rw [bf.l0,rq (by omega),rS (by omega)];have:=oB l r hr l.length 0 k x (by omega) (by omega) (by omega);rw [sH]at this;exact this
 |succ d y=>
  intro i k x hi q h;obtain⟨k,rfl⟩:∃m,k=m+1:=⟨k-1,by omega⟩;rw [bf.l0,rp (by omega),rp (by omega),rp (by omega),q4 i (by omega),rp (by omega),rp (by omega),oK,rG,r4 i (by omega),rp (by omega),gp l i (by omega),w1 i (by omega),y (i+1) k _ (by omega) (by omega) (by rw [List.length_set];exact h),pk];rfl
theorem mT(l:List S84)(r:l.length≤64)(hr:∀v∈l,VOk v):∀(d i k:Nat) (x:List Int),i+d=l.length→d+100<k→x.length=(l.length+3)/4→aG.l0 k l x i=some (pk x i (l.drop i)++l.flatMap pt):=by
 intro d
 induction d with
 |zero=>
  intro i k x hi q h;obtain⟨k,rfl⟩:∃m,k=m+1:=⟨k-1,by omega⟩;rw [aG.l0,rq (by omega),rS (by omega)];have:=mS l r hr l.length 0 k x (by omega) (by omega) (by omega);rw [sH]at this;exact this
 |succ d y=>
  intro i k x hi q h;obtain⟨k,rfl⟩:∃m,k=m+1:=⟨k-1,by omega⟩;rw [aG.l0,rp (by omega),q4 i (by omega),rp (by omega),rp (by omega),rp (by omega),oJ,rG,r4' i (by omega),rp (by omega),gp l i (by omega),w1 i (by omega),y (i+1) k _ (by omega) (by omega) (by rw [List.length_set];exact h),pk];rfl
theorem iA(k:Nat)(r:200≤k)(l:List S84)(h:l.length≤64)(hr:∀v∈l,VOk v):bf.f k l=some (lV l):=by
 have q:wrap64 (Int.tdiv (wrap64 ((wrap64 (2*(l.length:Int)))+7)) 8)=(((l.length+3)/4:Nat):Int):=by
  have:wrap64 ((wrap64 (2*(l.length:Int)))+7)=((2*l.length+7:Nat):Int):=by unfold wrap64;omega
  rw [this,sf (by omega)];unfold wrap64;omega
 unfold bf.f;rw [q,rp (by omega),rp (by omega)];have:=oC l h hr l.length 0 k (List.replicate ((l.length+3)/4) 0) (by omega) (by omega) (by simp);exact this
theorem kR(k:Nat)(r:200≤k)(l:List S84)(h:l.length≤64)(hr:∀v∈l,VOk v):aG.f k l=some (lV l):=by
 have q:wrap64 (Int.tdiv (wrap64 ((l.length:Int)+3)) 4)=(((l.length+3)/4:Nat):Int):=by
  have:wrap64 ((l.length:Int)+3)=((l.length+3:Nat):Int):=by unfold wrap64;omega
  rw [this,sf (by omega)];unfold wrap64;omega
 unfold aG.f;rw [q,rp (by omega),rp (by omega)];have:=mT l h hr l.length 0 k (List.replicate ((l.length+3)/4) 0) (by omega) (by omega) (by simp);exact this
theorem fw{t:S48}{row:List S84}(hr:∀v∈row,RV v)(h:cf t row=0):bh t=0∧row.length=t.f1.length∧row.length≤64∧∀v∈row,VOk v:=by
 unfold cf at h;split at h;·rename_i h1;exact absurd h h1
 rename_i h1;split at h;·omega
 rename_i D;have y:bh t=0:=sE.1 h1;have hn:row.length=t.f1.length:=sE.1 D;refine⟨y,hn,by have:=(kO y).c64;omega,?_⟩;intro v z;obtain⟨i,hi,rfl⟩:=List.getElem_of_mem z;have q:=dT _ _ h i hi;refine(hr _ z).ok ?_;unfold cr at q;have G:row.getD i z84=row[i]:=by simp [List.getD_eq_getElem?_getD,hi]
 rw [G]at q;split at q;·rename_i r;exact absurd q r
 ·rename_i r;exact sE.1 r
def iB(t:S48)(row:List S84):ByteArray×Int:=if cf t row=0 then(if 65536<(lV row).length then(⟨#[]⟩,3)else(strOfNums (lV row),0))else(⟨#[]⟩,cf t row)
theorem qK{t:S48}{row:List S84}(ho:df t)(hr:∀v∈row,RV v):bY.f t.f0 t.f1 t.f2 t.f3 t.f4 row=some (cf t row):=by
 unfold bY.f;rw [rp ⟨ho,fun v h=>(hr v h).sz⟩]
theorem qJ{t:S48}{row:List S84}(ho:df t)(hr:∀v∈row,RV v):bI.f t.f0 t.f1 t.f2 t.f3 t.f4 row=some (cf t row):=by
 unfold bI.f;rw [rp ⟨ho,fun v h=>(hr v h).sz⟩]
theorem fA(k:Nat)(y:200≤k){t:S48}{row:List S84}(ho:df t)(hr:∀v∈row,RV v):cQ.f k t.f0 t.f1 t.f2 t.f3 t.f4 row=some (iB t row):=by
 unfold cQ.f iB;rw [qK ho hr,rG];by_cases h:cf t row=0
 ·have q:=fw hr h
  rw [rp h,rp h,iA k y row q.2.2.1 q.2.2.2,rG];by_cases r:65536<(lV row).length;·rw [rp (by omega),rp r]
  ·rw [rq (by omega),rq r]
 ·rw [rq h,rq h]
theorem eG(k:Nat)(y:200≤k){t:S48}{row:List S84}(ho:df t)(hr:∀v∈row,RV v):bX.f k t.f0 t.f1 t.f2 t.f3 t.f4 row=some (iB t row):=by
 unfold bX.f iB;rw [qJ ho hr,rG];by_cases h:cf t row=0
 ·have q:=fw hr h
  rw [rp h,rp h,kR k y row q.2.2.1 q.2.2.2,rG];by_cases r:65536<(lV row).length;·rw [rp (by omega),rp r]
  ·rw [rq (by omega),rq r]
 ·rw [rq h,rq h]
def ef(row:List S84)(l:List Int):List S84:=l.map (af row)
theorem rdv(l:List Int)(i:Nat)(h:i<l.length):rd l i=l[i]:=by unfold rd;simp [List.getD_eq_getElem?_getD,h]
theorem pf(l:List Int)(i:Nat)(h:i<l.length):l.drop i=rd l i::l.drop (i+1):=by rw [rdv l i h];exact sn h
theorem oI(row:List S84)(l:List Int)(z:l.length≤64)(hr:∀x∈l,0≤x∧x<row.length):∀(d i k:Nat) (x:List S84),i+d=l.length→d<k→x.length≤i→cJ.l0 k row x l l.length i=some (x++ef row (l.drop i)):=by
 intro d
 induction d with
 |zero=>
  intro i k x hi q r;obtain⟨k,rfl⟩:∃m,k=m+1:=⟨k-1,by omega⟩;unfold cJ.l0;rw [rq (by omega),rS (by omega)];simp [ef]
 |succ d y=>
  intro i k x hi q r;obtain⟨k,rfl⟩:∃m,k=m+1:=⟨k-1,by omega⟩;have h:=hr (rd l i) (by rw [rdv l i (by omega)];exact rL _);unfold cJ.l0;rw [rp (by omega),rp (by omega),rp (by omega),rp h.1,rp h.2,rp (by omega),w1 i (by omega),y (i+1) k _ (by omega) (by omega) (by rw [rO];simp;omega),pf l i (by omega)];simp [ef]
theorem iQ(row:List S84)(l:List Int)(z:l.length≤64)(hr:∀x∈l,0≤x∧x<row.length):∀(d i k:Nat) (x:List S84),i+d=l.length→d<k→x.length≤i→bB.l0 k l row x i=some (x++ef row (l.drop i)):=by
 intro d
 induction d with
 |zero=>
  intro i k x hi q r;obtain⟨k,rfl⟩:∃m,k=m+1:=⟨k-1,by omega⟩;unfold bB.l0;rw [rq (by omega),rS (by omega)];simp [ef]
 |succ d y=>
  intro i k x hi q r;obtain⟨k,rfl⟩:∃m,k=m+1:=⟨k-1,by omega⟩;have h:=hr (rd l i) (by rw [rdv l i (by omega)];exact rL _);unfold bB.l0;rw [rp (by omega),rp (by omega),rp h.1,rp h.2,rp (by omega),w1 i (by omega),y (i+1) k _ (by omega) (by omega) (by rw [rO];simp;omega),pf l i (by omega)];simp [ef]
def jO(t:S48)(row:List S84):ByteArray×Int:=if cf t row=0 then eD (ef row t.f2)else(⟨#[]⟩,cf t row)
theorem iK{row:List S84}{l:List Int}(hr:∀x∈l,0≤x∧x<row.length):∀v∈ef row l,v∈row:=by
 intro v q;obtain⟨x,r,rfl⟩:=List.mem_map.1 q;have h:=hr x r;obtain⟨n,rfl⟩:∃n:Nat,x=n:=⟨x.toNat,by omega⟩;exact f_ row n (by omega)
theorem ko(k:Nat)(G:70000≤k){t:S48}{row:List S84}(ho:df t)(hr:∀v∈row,RV v):dV.f k t.f0 t.f1 t.f2 t.f3 t.f4 row=some (jO t row):=by
 unfold dV.f jO;rw [qK ho hr,rG];by_cases h:cf t row=0
 ·have z:=fw hr h
  have y:=kO z.1;have r:=du y.key;have q:∀x∈t.f2,0≤x∧x<row.length:=fun x q=>by have:=ea _ _ y.key x q;omega
  have hp:cJ.f k row t.f2=some (ef row t.f2):=by
   have:=oI row t.f2 r q t.f2.length 0 k [] (by omega) (by omega) (by simp);exact this
  have J:(ef row t.f2).length≤64:=by unfold ef;rw [ss];exact r
  rw [rp h,rp h,hp,rG,iu _ (by omega) (fun v D=>hr v (iK q v D)) k (by omega)];rfl
 ·rw [rq h,rq h]
theorem kr(k:Nat)(G:70000≤k){t:S48}{row:List S84}(ho:df t)(hr:∀v∈row,RV v):cP.f k t.f0 t.f1 t.f2 t.f3 t.f4 row=some (jO t row):=by
 unfold cP.f jO;rw [qJ ho hr,rG];by_cases h:cf t row=0
 ·have z:=fw hr h
  have y:=kO z.1;have r:=du y.key;have q:∀x∈t.f2,0≤x∧x<row.length:=fun x q=>by have:=ea _ _ y.key x q;omega
  have hp:bB.f k t.f2 row=some (ef row t.f2):=by
   have:=iQ row t.f2 r q t.f2.length 0 k [] (by omega) (by omega) (by simp);exact this
  have J:(ef row t.f2).length≤64:=by unfold ef;rw [ss];exact r
  rw [rp h,rp h,hp,rG,fD _ (by omega) (fun v D=>hr v (iK q v D)) k (by omega)];rfl
 ·rw [rq h,rq h]
theorem lW(t:S48)(row:List S84):(iB t row).1.size≤65536:=by
 unfold iB;split
 ·split
  ·exact rR _
  ·show(strOfNums _).size≤_
   rw [strOfNums_size];omega
 ·exact rR _
end Go.Proofs.YtiphlfpainoeiaaGreatDoor
