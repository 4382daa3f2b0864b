/- Part 2 of the proof of RedoRecords (conditions: none beyond the statement's own guards). -/
import Derived.WalkSpells
import Derived.WalkLawsBesides
import Derived.Laws.Cover2
import Derived.Laws.Externs
import Derived.Laws.EntriesVeiled
import Derived.Deep.WholeRow
import Derived.Laws.ResultCell
import Derived.Laws.Entries
import Derived.Laws.StructEq
import Derived.Test.YtiphlfpainoeiaaGreatDoorQ01
set_option linter.unusedVariables false
set_option linter.unusedSimpArgs false
namespace Go.Proofs.YtiphlfpainoeiaaGreatDoorW.PrintWords
def Kd.f64:Kd Nat:=Kd.scalar (Value.float .f64) (fun _=>rfl)
end Go.Proofs.YtiphlfpainoeiaaGreatDoorW.PrintWords
namespace Go.Proofs.YtiphlfpainoeiaaGreatDoor
open Go.RowKit Go.Proofs.YtiphlfpainoeiaaGreatDoorW.PrintWords
structure GT (w:World):Prop where
 tabs:Lib.Utf8Tabs 2 3 w
 maxLen:∃m,w.cell? ⟨5,0,none⟩=some (.int .i64 m)
theorem GT.now{w W:World}(h:GT w)(q:Below w.heap.size w W):GT W:=by
 obtain⟨⟨h1,r⟩,m,z⟩:=h;exact⟨⟨fun c y=>aj q (h1 c y),fun i hi=>⟨aj q (r i hi).1,aj q (r i hi).2⟩⟩,m,aj q z⟩
@[go_sem]theorem mB {P:Program} {w:World} {a:Addr} {m:Mode} (k:FloatKind) (n:Nat):(store a (.float k n) m).run P w=stored P w a (.float k n) m:=run_store P w a _ m rfl
@[go_sem]theorem mC (b:Nat) (w:World):(callFunc 109 #[.float .f64 b]).run Tryz.prog w= .ok (.value (.int .u64 b)) w:=by
  rw [run_callFunc_extern (e:=Extern.MathFloatBits.float64bits) Tryz.func109 (by kernel_rfl) (by kernel_rfl) (by kernel_rfl) (by kernel_rfl)];rfl
@[go_sem]theorem kf (n:Int) (w:World):(callFunc 115 #[.int .u64 n]).run Tryz.prog w= .ok (.value (.float .f64 n.toNat)) w:=by
  rw [run_callFunc_extern (e:=Extern.MathFloatBits.float64frombits) Tryz.func115 (by kernel_rfl) (by kernel_rfl) (by kernel_rfl) (by kernel_rfl)];rfl
def ch.f(a0 h q:ByteArray):Option ByteArray:=
 if a0.size<4294967281∧1≤h.size∧a0.size+Lib.countB a0 h*q.size≤140737488355328 then some ⟨(Lib.replaceAll a0.data.toList h.data.toList q.data.toList).toArray⟩else none
theorem ch.calls(a0 q y:ByteArray)(r:ByteArray)(w:World)(G:GT w)(h:ch.f a0 q y=some r):
 Calls Tryz.prog 103 #[.string a0, .string q, .string y] w fun e D=>e= .returned (.string r)∧Below w.heap.size w D:=by
 unfold ch.f at h;split at h
 ·rename_i z
  obtain⟨m,U⟩:=G.maxLen;refine(Tryz.strings_ReplaceAll a0 q y m w z.1 U z.2.1 z.2.2).mono ?_;rintro e D ⟨rfl,J⟩;exact⟨by rw [rD h],J⟩
 ·cases h
def dS.f(a0:Int):Option Int:=if 0≤a0∧a0≤18446744073709551615 then some (Lib.bitLen a0.toNat)else none
theorem dS.calls(a0 r:Int)(w:World)(h:dS.f a0=some r):Calls Tryz.prog 165 #[.int .u64 a0] w fun e y=>e= .returned (.int .i64 r)∧bM w y:=by
 unfold dS.f at h;split at h
 ·rename_i q
  refine(Tryz.bits_Len64 a0 w q.1 q.2).mono ?_;rintro e y ⟨rfl,rfl⟩;exact⟨by rw [rD h],bM.refl _⟩
 ·cases h
end Go.Proofs.YtiphlfpainoeiaaGreatDoor
namespace Go.Proofs.YtiphlfpainoeiaaGreatDoor
open Go.RowKit Go.Proofs.YtiphlfpainoeiaaGreatDoorW.PrintWords Go.Lib
section
variable {P:Program} {w:World}
theorem fS(base:Nat)(t u q e:TypeId)(i:TypeInfo)(r:P.underlying t=some (.slice e))(y:P.underlying u=some .string)(hi:P.info? e=some i)(Z:i.zero=some (.int .u8 0))
 (G:i.size=1)(V:i.bytes=1)
 (v:Value)(n:Nat)(xs:List Value)(D:w.ownsRow base e 1 v n xs)(s:ByteArray)
 (am:n+s.size≤maxLen)(hbytes:n+s.size≤140737488355328)(J:Value)(w':World)(h:(Builtin.append_ #[t,u] q #[v, .string s]).run P w= .ok J w'):
 J.ownBlock=v.ownBlock∨∃b,J.ownBlock=some b∧w.heap.size≤b:=by
 have hsmall:n+s.size≤9223372036854775807:=by simp only [maxLen]at am;omega
 have Y:xs.length=n:=by simpa using D.1
 rcases D.2 with⟨rfl,rfl⟩|⟨g,cap,U,rfl,hbg,hg,hnc,hcm,ap,htake⟩
 ·have hx:xs= []:=r7 Y
  subst hx;by_cases z:s.size=0
  ·have X:=run_firstCells_string (P:=P) w 1 s
   rw [z]at X;have hn:strCells s= []:=r7 (by rw [strCells_length];exact z);have hr:(Builtin.append_ #[t,u] q #[.slice none 0 0, .string s]).run P w= .ok (.slice none 0 0) w:=by
    simp [Builtin.append_,run_underlying r,run_underlying y,sizeOf,typeInfo,hi,G,Builtin.lenOf,z,X]
   rw [hr]at h;cases h;exact .inl rfl
  ·have hr:=run_append_nil_string (P:=P) w t u q e i (.int .u8 0) r y hi Z s (by omega) (by omega) (by rw [V];omega)
   rw [hr]at h;cases h;exact .inr ⟨_,rfl,rA _⟩
 ·by_cases av:n+s.size≤cap
  ·have hcs':U.size=cap:=by simpa using ap
   have hr:=run_append_room_string (P:=P) w t u q e i r y hi G g n cap U hg s av (by omega);rw [hr]at h;cases h;exact .inl rfl
  ·have holds:∀j u,xs[j]? =some u→w.cell? ((⟨g,0,none⟩:Addr).add j)=some u:=D.cells (g:=g) rfl
   have hr:=run_append_grow_string (P:=P) w t u q e i (.int .u8 0) r y hi Z ⟨g,0,none⟩ n cap xs (by rw [G];simpa using Y) holds s (by omega) (by omega) (by rw [V];exact growslice_fits (by omega) (by omega));rw [hr]at h;cases h;exact .inr ⟨_,rfl,rA _⟩
theorem eQ{w0:World}(base:Nat)(t u z e:TypeId)(X:P.underlying t=some (.slice e))(Y:P.underlying u=some .string)(hinfo:(P.info? e).map (fun i=>(i.zero,i.size,i.bytes))=some (some (.int .u8 0),1,1))
 (v:Value)(xs:List Int)(y:ByteArray)(ok:Nat→Prop)(hfresh:∀k,w.heap.size≤k→ok k)(D:(Kd.int .u8).R e w base ok v xs)(HB:Below base w0 w)(U:base≤w.heap.size)(V:xs.length+y.size≤140737488355328):
 ∃v1 w1,(Builtin.append_ #[t,u] z #[v, .string y]).run P w= .ok v1 w1∧(Kd.int .u8).R e w1 base ok v1 (xs++br y)∧Below base w0 w1∧w.grownBy w1 v.ownBlock∧(v1.ownBlock=v.ownBlock∨∃b,v1.ownBlock=some b∧w.heap.size≤b):=by
 obtain⟨i,hi,av⟩:=sd.1 hinfo;simp only [Prod.mk.injEq]at av;obtain⟨Z,am,ap⟩:=av;have r:=Kd.own_of_R D;obtain⟨v1,w1,hr,h2,G,_⟩:=run_append_own_string (P:=P) w base t u z e i X Y hi Z am ap v xs.length _ r y (by simp only [maxLen];omega) V U;have J:=fS (P:=P) base t u z e i X Y hi Z am ap v xs.length _ r y (by simp only [maxLen];omega) V v1 w1 hr;refine⟨v1,w1,hr,?_,?_,G,J⟩
 ·have hl2:(xs++br y).length=xs.length+y.size:=by rw [rO,bS]
  have hc:ib .u8 (xs++br y)=ib .u8 xs++Lib.strCells y:=by
   rw [jK];congr 1;simp [ib,br,Lib.strCells]
  refine Kd.R_of_own (h1:=fun _=>rfl) ?_ ?_
  ·rw [hl2]
   exact(show w1.ownsRow base e 1 v1 (xs.length+y.size) (ib .u8 (xs++br y))from hc▸h2)
  ·intro k q
   rcases J with h|⟨b,hb,hle⟩;·rw [h]at q;exact D.1 k q
   ·rw [hb]at q;cases q;exact hfresh _ hle
 ·exact HB.grown G U (eS r)
variable {ops:Array Oper} {rest:List Oper} {o:Oper} {a:Act} {Q:Exit→Act→World→Prop}
theorem jk{w0 W:World}(base:Nat)(Y:o.guard=none)(s x:Operand)(t u e:TypeId)
 (ho:o.op= .call {callee:= .builtin .append,args:= #[s,x],argTypes:= #[t,u]})
 (ht:P.underlying t=some (.slice e))(hu:P.underlying u=some .string)(Z:(P.info? e).map (fun i=>(i.zero,i.size,i.bytes))=some (some (.int .u8 0),1,1))
 (v:Value)(xs:List Int)(y:ByteArray)(ok:Nat→Prop)(hs:a.eval s=v)(hx:a.eval x= .string y)(X:∀k,W.heap.size≤k→ok k)
 (r:(Kd.int .u8).R e W base ok v xs)(q:Below base w0 W)(V:base≤W.heap.size)(hl:xs.length+y.size≤140737488355328)
 (h:∀v1 w1,(Kd.int .u8).R e w1 base ok v1 (xs++br y)→Below base w0 w1→W.grownBy w1 v.ownBlock→(v1.ownBlock=v.ownBlock∨∃b,v1.ownBlock=some b∧W.heap.size≤b)→wpList P ops Q rest (a.put o.dst v1) w1):
 wpList P ops Q (o::rest) a W:=by
 refine wpList_plain Y fun K U=>?_
 obtain⟨v',w',hr,z,D,G,J⟩:=eQ (P:=P) (w:=W) base t u o.type e ht hu Z v xs y ok X r q V hl;unfold Oper.wp execOp;simp only [ho,resolve,invoke,builtin,Sem.run_bind,Sem.run_pure,Result.andThen_ok,List.map_toArray,List.map_cons,List.map_nil,hs,hx,hr];exact U _ _ (h v' w' z D G J)
variable {Kc:Act→World→Prop}
theorem dJ{w0 W:World}(base:Nat)(hw:Region.wanted o (yielded ops a.tmps)=true)(s x:Operand)(t u e:TypeId)
 (ho:o.op= .call {callee:= .builtin .append,args:= #[s,x],argTypes:= #[t,u]})
 (ht:P.underlying t=some (.slice e))(hu:P.underlying u=some .string)(X:(P.info? e).map (fun i=>(i.zero,i.size,i.bytes))=some (some (.int .u8 0),1,1))
 (v:Value)(xs:List Int)(y:ByteArray)(ok:Nat→Prop)(Z:a.eval s=v)(hx:a.eval x= .string y)(V:∀k,W.heap.size≤k→ok k)
 (r:(Kd.int .u8).R e W base ok v xs)(q:Below base w0 W)(U:base≤W.heap.size)(Y:xs.length+y.size≤140737488355328)
 (h:∀v1 w1,(Kd.int .u8).R e w1 base ok v1 (xs++br y)→Below base w0 w1→W.grownBy w1 v.ownBlock→(v1.ownBlock=v.ownBlock∨∃b,v1.ownBlock=some b∧W.heap.size≤b)→Kc (a.put o.dst v1) w1):
 if Region.wanted o (yielded ops a.tmps)=true then Oper.wp P o a W Kc Q else Kc (a.put o.dst undef) W:=by
 rw [rp hw];obtain⟨v',w',hr,z,D,G,J⟩:=eQ (P:=P) (w:=W) base t u o.type e ht hu X v xs y ok V r q U Y;unfold Oper.wp execOp;simp only [ho,resolve,invoke,builtin,Sem.run_bind,Sem.run_pure,Result.andThen_ok,List.map_toArray,List.map_cons,List.map_nil,Z,hx,hr];exact h v' w' z D G J
end
end Go.Proofs.YtiphlfpainoeiaaGreatDoor
namespace Go.Proofs.YtiphlfpainoeiaaGreatDoorW.PrintMore
open Go.RowKit Go.Proofs.YtiphlfpainoeiaaGreatDoorW.PrintWords
namespace Kd
open Go.Proofs.YtiphlfpainoeiaaGreatDoorW.PrintWords.Kd
section
variable {α:Type} {d:Kd α} {e base g N:Nat} {ok:Nat→Prop} {W w1:World} {u v:Value} {xs:List α}
theorem R_old(r:d.R e W base ok u xs)(q:Below W.heap.size W w1):d.R e w1 base (fun k=>ok k∧k<W.heap.size) u xs:=
 R_mono (R_below (R_bound r) q) (fun _ h=>⟨h.1,h.2.2.1⟩)
theorem R_told(h:d.R e w1 base (fun k=>ok k∧k<N) u xs)(r:∀k,v.ownBlock=some k→N≤k):d.R e w1 base (fun k=>(ok k∧some k≠v.ownBlock)∧k<N) u xs:=
 R_mono h (fun k q=>⟨⟨q.1,fun e=>Nat.lt_irrefl _ (rv q.2 (r k e.symm))⟩,q.2⟩)
end
end Kd
theorem cj(k h:IntKind)(x y:Int):Builtin.max2 (.int k x) (.int h y)=pure (.int k (if x<y then y else x)):=by simp only [Builtin.max2,gt_iff_lt]
theorem cB(h:Array TypeId)(q:TypeId)(a b:Value):Builtin.max_ h q #[a,b]=(Builtin.max2 a b>>=fun s=>pure s):=by simp only [Builtin.max_,List.foldlM_cons,List.foldlM_nil]
end Go.Proofs.YtiphlfpainoeiaaGreatDoorW.PrintMore
namespace Go.Proofs.YtiphlfpainoeiaaGreatDoorW.PrintWords
open Go.RowKit
section
variable {P:Program} {ops:Array Oper} {rest:List Oper} {o:Oper} {a:Act} {Q:Exit→Act→World→Prop} {W:World}
theorem cF{f:FuncId}{q:Array Operand}{r:Array TypeId}(y:o.op= .call {callee:= .value (.func f),args:=q,argTypes:=r})(h:wpList P ops Q (o::rest) a W):wpList P ops Q (o::rest) a W:=h
theorem aZ{b:Builtin}{xs:Array Operand}{q:Array TypeId}(r:o.op= .call {callee:= .builtin b,args:=xs,argTypes:=q})(h:wpList P ops Q (o::rest) a W):wpList P ops Q (o::rest) a W:=h
end
def mx(a b:Int):Int:=if a<b then b else a
def shl(k:IntKind)(x y:Int):Int:=k.wrap (x*2^min y.toNat k.bits)
def shr(k:IntKind)(x y:Int):Int:=x/2^min y.toNat k.bits
theorem lU{k:IntKind}{x y j:Int}(h:shl k x y=j)(q:y≤k.bits):k.wrap (x*2^y.toNat)=j:=by rw [←h];unfold shl;rw [Nat.min_eq_left (by omega)]
theorem pZ{k:IntKind}{x y j:Int}(h:shr k x y=j)(q:y≤k.bits):x/2^y.toNat=j:=by rw [←h];unfold shr;rw [Nat.min_eq_left (by omega)]
theorem cW(w:World)(n:Nat):w.drewN n=w.drewN n:=rfl
end Go.Proofs.YtiphlfpainoeiaaGreatDoorW.PrintWords
namespace Go.Proofs.YtiphlfpainoeiaaGreatDoorW.PrintWords
open Go.RowKit
namespace Kd
section
variable {α β:Type} {d:Kd α} {e base base' n m c g N' lo hi:Nat} {ok ok' S:Nat→Prop} {w W w1:World} {A:Option Addr} {ad:Addr} {u v v1:Value} {xs:List α}
theorem R_newM{M:Nat→Prop}(h:d.R e w1 W.heap.size ok v xs)(y:w.heap.size≤W.heap.size)(r:∀k,w.heap.size≤k→M k):d.R e w1 W.heap.size (fun k=>M k∧ok k) v xs:=R_mono (R_bound h) (fun k q=>⟨r k (rK y q.2.1),q.1⟩)
end
end Kd
end Go.Proofs.YtiphlfpainoeiaaGreatDoorW.PrintWords
namespace Go.Proofs.YtiphlfpainoeiaaGreatDoor
open Go.RowKit Go.Proofs.YtiphlfpainoeiaaGreatDoorW.PrintWords
def eO(k:Nat):Array Value:=Array.ofFn fun i:Fin 256=>Value.int .u32 (if i.val<k then(Crc.stN 8 i.val:Int)else 0)
theorem dD(k:Nat):(eO k).size=256:=by simp [eO]
theorem iH:eO 0=Array.replicate 256 (.int .u32 0):=by
 apply Array.ext;·simp [eO]
 ·intro i h1 h
  simp [eO]
theorem hH(k i:Nat)(hi:i<256):(eO k)[i]? =some (.int .u32 (if i<k then(Crc.stN 8 i:Int)else 0)):=by
 simp [eO,hi]
theorem lP(k:Nat)(h:k<256):(eO k).setIfInBounds k (.int .u32 (Crc.stN 8 k:Nat))=eO (k+1):=by
 apply Array.ext_getElem?;intro i;rw [Array.getElem?_setIfInBounds,dD];by_cases hi:i<256
 ·rw [hH _ _ hi,hH _ _ hi]
  by_cases e:k=i
  ·subst e
   simp [h]
  ·rw [rq e]
   have:(i<k↔i<k+1):=(by omega);simp [this]
 ·rw [rq (by omega),Array.getElem?_eq_none (by rw [dD];omega),Array.getElem?_eq_none (by rw [dD];omega)]
theorem jz(k:Nat):(eO k).all (·.oneCell')=true:=by
 rw [Array.all_eq_true];intro i hi;simp [eO,Value.oneCell']
theorem nA:(Tryz.prog.info? 78).map (fun i=>(i.zero,i.size))=some (some (.agg (Array.replicate 256 (.int .u32 0))),256):=by kernel_rfl
theorem jA(n:Nat):∀x,Crc.stN (n+1) x=Crc.st (Crc.stN n x):=by
 induction n with
 |zero=>intro x;rfl
 |succ n h=>intro x;rw [Crc.stN,h];rfl
theorem kh(w:World)(r c q:Array Value)(t:TypeId):((w.alloc (.cells r t)).alloc (.cells q t)).setRow w.heap.size c=(w.alloc (.cells c t)).alloc (.cells q t):=by
 simp only [World.setRow,World.alloc];congr 1;apply Array.ext_getElem?;intro i;rw [Array.getElem?_modify];by_cases h:w.heap.size=i
 ·subst h
  simp [Array.getElem?_push]
 ·simp [h,Array.getElem?_push]
  have y:¬i=w.heap.size:=fun e=>h e.symm
  simp [y]
theorem qI(n:Nat)(hn:n<2^32):Go.bits .and .u32 (n:Int) 1=((n%2:Nat):Int):=by
 rw [show(1:Int)=((1:Nat):Int)from rfl,u32_and n 1 hn (by decide),Nat.and_one_is_mod]
set_option maxHeartbeats 1000000 in
set_option maxRecDepth 1000000 in
theorem ov(w:World):
 Calls Tryz.prog 34 #[] w fun e w'=>e= .returned (.agg (eO 256))∧Below w.heap.size w w':=by
 obtain⟨hz78,hi78⟩:=zero_of_info nA;obtain⟨h,V⟩:∃c,eO 0=c:=⟨_,rfl⟩;rw [←iH,V]at hz78;have am:=rn V;clear V;go_enter Tryz.func34,Tryz.ntmps34;go_wp2
 go_loopg [4] 256 (fun g s4 wx=>∃(i:Nat) (c:Array Value),i+g=256∧s4= .int .i64 i∧Hid (eO i=c)∧wx=(w.alloc (.cells h 78)).alloc (.cells c 78))
 case atStart=>exact⟨0,h,by omega,rfl,am,rfl⟩
 case round=>
  obtain⟨i,c,hig,rfl,D,rfl⟩:=hrel;cases gk with
  |zero=>
   obtain rfl:i=256:=(by omega);obtain rfl:eO 256=c:=D.out;have ap:Tryz.prog.underlying 78=some (.array 256 41):=Tryz.underlying78;have z:(Tryz.prog.info? 78).map (·.size)=some (eO 256).size:=(by rw [dD];exact hi78);generalize r:eO 256=c at*;have HO:=rn (show c.all (·.oneCell')=true from by rw [←r];exact jz 256);have HS0:=rn (show h.size=c.size from by rw [←r,←am.out,dD,dD]);have HZ:=rn (show c.size=256 from by rw [←r,dD]);have HCC:=rn r;clear r;go_wp2_with fail;refine wp_load_row 78 _ rfl (w.heap.size+1) rfl 78 c (0,0) _ (heap_alloc2_new w _ _) ap rfl z ?_;have hcz:=HZ.out;have hsc:(storeCells ⟨w.heap.size,0,none⟩ c.toList 0).run Tryz.prog ((w.alloc (.cells h 78)).alloc (.cells c 78))= .ok () (((w.alloc (.cells h 78)).alloc (.cells c 78)).setRow w.heap.size c):=by
    have:=run_storeVar_row (P:=Tryz.prog) ((w.alloc (.cells h 78)).alloc (.cells c 78)) w.heap.size 78 78 h c (heap_alloc2_old w _ _) z HS0.out HO.out;cases X:Tryz.prog.info? 78 with
    |none=>simp [X]at z
    |some i=>
     have hs:c.size=i.size:=(by simp [X]at z;omega);simpa [storeVar,sizeOf,typeInfo,X,Value.cells,hs]using this
   go_wp2;go_wp2;have hr:=kh w h c c 78;refine rN (v:= .agg c) ?_ rfl ⟨by rw [HCC.out],?_⟩
   ·rw [hr]
    exact so rfl _ _ w.heap.size 78 c (0,0) _ rfl (heap_alloc2_old w _ _) ap rfl z
   ·rw [hr]
    exact((rr _ _).alloc (rA _) _).alloc (by simp) _
  |succ g=>
   have hi:i<256:=(by omega);have hiz:(i:Int)<256:=(by omega);have hcs:i<c.size:=(by rw [←D.out,dD];exact hi);go_wp2;go_loop [9,3] (fun Z s3=>∃j x:Nat,j≤8∧Z= .int .i64 j∧s3= .int .u32 x∧x<4294967296∧Hid (Crc.stN j i=x)) (fun Z _=>(8-intOf Z).toNat);case atStart=>exact⟨0,i,by omega,rfl,rfl,by omega,rn rfl⟩
   case round=>
    obtain⟨j,x,hj,rfl,rfl,hx,J⟩:=hrel;by_cases hlt:j<8
    ·have hjz:(j:Int)<8:=by omega
     by_cases ho:x%2=1
     ·obtain⟨y,q⟩:∃y:Nat,y=x/2^^^2197175160:=⟨_,rfl⟩
      have Y:y<4294967296:=(by rw [q];exact sg (n:=32) (by omega) (by decide));have U:=rn (show Crc.stN (j+1) i=y from by rw [jA,J.out,Crc.st,rp ho,q];rfl);have G:=rn (show Go.bits .xor .u32 ((x:Int)/2) 2197175160=(y:Int)from by rw [q];exact u32_xor (x/2) 2197175160 (by omega) (by decide));have HT:(Go.bits .and .u32 (x:Int) 1==1)=true:=(by rw [qI _ hx,ho];rfl);clear q ho;go_wp2;go_round;case rel=>exact⟨j+1,y,by omega,by go_num,by rw [G.out],Y,U⟩
      case measure=>simp [intOf];omega
     ·obtain⟨y,q⟩:∃y:Nat,y=x/2:=⟨_,rfl⟩
      have Y:y<4294967296:=(by omega);have U:=rn (show Crc.stN (j+1) i=y from by rw [jA,J.out,Crc.st,rq ho,q]);have G:=rn (show((x:Int)/2)=(y:Int)from by rw [q];rfl);have HT:(Go.bits .and .u32 (x:Int) 1==1)=false:=(by rw [qI _ hx,show x%2=0 from by omega];rfl);clear q ho;go_wp2;go_round;case rel=>exact⟨j+1,y,by omega,by go_num,by rw [G.out],Y,U⟩
      case measure=>simp [intOf];omega
    ·obtain rfl:j=8:=by omega
     have HS:=rn (show eO (i+1)=c.setIfInBounds i (.int .u32 x)from by rw [←D.out,←J.out,lP i hi]);go_wp2
     go_roundg g
     case measure=>omega
     case rel=>exact⟨i+1,_,by omega,by go_num,HS,rfl⟩
theorem n8(l:List UInt8)(x:UInt8)(n:Nat):Crc.go (l++ [x]) n=Crc.stN 8 (Crc.go l n^^^x.toNat):=by simp [Crc.go,List.foldl_append]
theorem jy(s:ByteArray)(k:Nat)(h:k<s.size):s.data.toList.take (k+1)=s.data.toList.take k++ [s[k]]:=by
 rw [rM (by simpa using h)];rfl
set_option maxHeartbeats 1000000 in
set_option maxRecDepth 1000000 in
theorem nZ(s:ByteArray)(w:World)(hs:s.size≤9223372036854775807):
 Calls Tryz.prog 16 #[.string s] w fun e w'=>e= .returned (.int .u32 (Crc.sum s.data.toList:Nat))∧Below w.heap.size w w':=by
 obtain⟨hz78,hi78⟩:=zero_of_info nA;obtain⟨Z,J⟩:∃c,eO 0=c:=⟨_,rfl⟩;rw [←iH,J]at hz78;have HS0:=rn (show Z.size=256 from by rw [←J,dD]);clear J;obtain⟨c,q⟩:∃c,eO 256=c:=⟨_,rfl⟩;have G:=rn (show c.size=256 from by rw [←q,dD]);have HO:=rn (show c.all (·.oneCell')=true from by rw [←q];exact jz 256);have HC:=rn (show∀y<256,c[y]? =some (.int .u32 (Crc.stN 8 y:Nat))from fun y h=>by rw [←q,hH _ _ h,rp h]);have HCC:=rn q;clear q;have hcz:c.size=256:=G.out;go_enter Tryz.func16,Tryz.ntmps16;go_wp2_with (go_at_call 34;refine(ov _).mono ?_;rintro e w1 ⟨rfl,am⟩;rw [HCC.out];have X:=rn am;clear am;have hsc:=run_storeCells_new (P:=Tryz.prog) w1 78 Z c (by rw [G.out];exact hi78) (by rw [HS0.out,G.out]) HO.out);have av:=rn (X.out.alloc X.out.size (.cells c 78));go_loop [9,4] (fun V s4=>∃k n:Nat,k≤s.size∧V= .int .i64 k∧s4= .int .u32 n∧n<4294967296∧Hid (Crc.go (s.data.toList.take k) 4294967295=n)) (fun V _=>s.size-(intOf V).toNat);case atStart=>exact⟨0,4294967295,rR _,rfl,rfl,by omega,rn rfl⟩
 case round=>
  obtain⟨k,n,hk,rfl,rfl,hn,Y⟩:=hrel;by_cases hlt:k<s.size
  ·obtain⟨y,h⟩:∃y:Nat,n%256^^^s[k].toNat=y:=⟨_,rfl⟩
   have U:=s[k].toNat_lt;have hyl:y<256:=(by rw [←h];exact sg (n:=8) (by omega) U);have hE:Go.bits .xor .u8 ((n:Int)%256) (s[k].toNat:Int)=(y:Int):=(by rw [←h];exact u8_xor (n%256) s[k].toNat (by omega) U);obtain⟨z,D⟩:∃z,Crc.stN 8 y=z:=⟨_,rfl⟩;have ap:z<4294967296:=(by rw [←D];exact Crc.pq 8 y (by omega));have hcell:(w1.alloc (.cells c 78)).cell? ⟨w1.heap.size,y,none⟩=some (.int .u32 z):=by
    rw [cell_of_row _ _ y c 78 (0,0) (heap_alloc_last w1 _),HC.out y hyl,D]
   obtain⟨m,r⟩:∃m:Nat,n/256^^^z=m:=⟨_,rfl⟩;have hml:m<4294967296:=(by rw [←r];exact sg (n:=32) (by omega) ap);have HM:=rn (show Go.bits .xor .u32 ((n:Int)/256) (z:Int)=(m:Int)from by rw [←r];exact u32_xor (n/256) z (by omega) ap);have HG:=rn (show Crc.go (s.data.toList.take (k+1)) 4294967295=m from by rw [jy s k hlt,n8,Y.out,Crc.st8 n _ U,h,D,r]);clear h D r;go_wp2;go_round;case rel=>exact⟨k+1,m,by omega,by go_num,by rw [HM.out],hml,HG⟩
   case measure=>simp [intOf];omega
  ·have hkl:k=s.size:=by omega
   subst hkl;have HE:=rn (show(Crc.sum s.data.toList)=n^^^4294967295 from by rw [Crc.sum,←Y.out,rY (by simp)]);have HF:=rn (show Go.bits .xor .u32 IntKind.u32.max (n:Int)=((n^^^4294967295:Nat):Int)from by rw [Nat.xor_comm,show IntKind.u32.max=((4294967295:Nat):Int)from rfl];exact u32_xor 4294967295 n (by decide) hn);go_wp2;go_ret;exact⟨by rw [HE.out];exact congrArg (fun z=>Ending.returned (Value.int .u32 z)) HF.out,av.out⟩
end Go.Proofs.YtiphlfpainoeiaaGreatDoor
namespace Go.Proofs.YtiphlfpainoeiaaGreatDoorW.PrintWords
theorem dg.one{α:Type}{R:α→List Value→Prop}{ps:List α}{cs:List Value}{p:α}{v:Value}(hp:R p [v])(h:dg R 1 ps cs):dg R 1 (p::ps) (v::cs):=by
 refine⟨by simp [h.1],fun j q r=>?_⟩;cases j with
 |zero=>
  simp only [List.getElem?_cons_zero,Option.some.injEq]at r;subst r;simpa using hp
 |succ j=>
  simp only [List.getElem?_cons_succ]at r;have h1:=h.2 j q r;simpa [Nat.mul_one]using h1
end Go.Proofs.YtiphlfpainoeiaaGreatDoorW.PrintWords
namespace Go.Proofs.YtiphlfpainoeiaaGreatDoorW.PrintLast
open Go.Proofs.YtiphlfpainoeiaaGreatDoorW.PrintWords (aa)
def fm(md:Region.Mode)(o:Oper):List Nat:=(o.after.toList.filter (fun e=>Region.binds md e)).map (fun e=>e.on)
def jg(md:Region.Mode)(ops:Array Oper)(i:Nat)(oi:Oper):List Nat:=(List.range ops.size).filter fun j=> !(j==i)&&match ops[j]? with
 |some h=> !(h.after.any (fun e=>Region.binds md e&&e.on==i)||oi.apart ops h)
 |none=>false
def dK(md:Region.Mode)(ops:Array Oper):Bool×List (List Nat×List Nat):=(Region.noSelect ops,(List.range ops.size).map fun i=>match ops[i]? with
 |some o=>(fm md o,jg md ops i o)
 |none=>([],[]))
def eH(T:List (List Nat×List Nat))(l:List Bool)(i:Nat):Bool:= !l.getD i true&&match T[i]? with
 |some r=>r.1.all (fun j=>l.getD j false)
 |none=>false
def fI(T:List (List Nat×List Nat))(l:List Bool):List Nat:=(List.range T.length).filter (eH T l)
def jR(T:List (List Nat×List Nat))(l:List Bool)(i:Nat):Bool:=match T[i]? with
 |some r=>r.2.all (fun j=>l.getD j true)
 |none=>false
def gU(T:List (List Nat×List Nat))(l:List Bool):Bool:=(List.range T.length).all fun j=> !l.getD j false||match T[j]? with
 |some r=>r.1.all (fun k=>l.getD k false)
 |none=>true
def gh(T:List (List Nat×List Nat))(i:Nat):Nat→Nat→Bool
 |0,_=>false
 |fuel+1,d=>match T[d]? with
  |some r=>r.1.any fun j=>j==i||gh T i fuel j
  |none=>false
def ls(T:List (List Nat×List Nat))(l:List Bool)(ds:List Nat)(i:Nat):Bool:=ds.all fun d=>l.getD d true||gh T i T.length d
section
variable {md:Region.Mode} {ops:Array Oper} {T:Bool×List (List Nat×List Nat)} {l l' li lj lk:Array Bool} {ds:List Nat} {i j k:Nat}
theorem gd(l:Array Bool)(j:Nat)(b:Bool):l.getD j b=l.toList.getD j b:=by simp [Array.getD_eq_getD_getElem?,List.getD_eq_getElem?_getD]
theorem iM(o:Oper)(p:Nat→Bool):o.after.all (fun e=> !Region.binds md e||p e.on)=(fm md o).all p:=by
 unfold fm;rw [←Array.all_toList]
 induction o.after.toList with
 |nil=>rfl
 |cons e r q=>
  rw [List.all_cons,q,List.filter_cons];cases h:Region.binds md e<;>simp
theorem l8(o:Oper)(p:Nat→Bool):o.after.any (fun e=>Region.binds md e&&p e.on)=(fm md o).any p:=by
 unfold fm;rw [←Array.any_toList]
 induction o.after.toList with
 |nil=>rfl
 |cons e r q=>
  rw [List.any_cons,q,List.filter_cons];cases h:Region.binds md e<;>simp
theorem eF:(dK md ops).2.length=ops.size:=by simp [dK]
theorem fj{o:Oper}(h:ops[i]? =some o):(dK md ops).2[i]? =some (fm md o,jg md ops i o):=by
 have hi:=(Array.getElem?_eq_some_iff.1 h).1;unfold dK;rw [List.getElem?_map,List.getElem?_range hi,Option.map_some,h]
theorem fk(h:ops[i]? =none):(dK md ops).2[i]? =none:=by
 have hi:ops.size≤i:=Array.getElem?_eq_none_iff.1 h;exact sw (by rw [eF];exact hi)
theorem ks:eH (dK md ops).2 l.toList i=(!l.getD i true&&((ops[i]?).map (·.after.all fun e=> !Region.binds md e||l.getD e.on false)).getD false):=by
 unfold eH;rw [gd];cases h:ops[i]? with
 |none=>rw [fk h];rfl
 |some o=>
  rw [fj h];simp only [Option.map_some,Option.getD_some];rw [←iM];simp only [gd]
theorem fV:Region.ready md ops l=fI (dK md ops).2 l.toList:=by
 unfold Region.ready fI;rw [eF];refine List.filter_congr (fun i _=>?_);rw [ks]
theorem lv:Region.free md ops l i=jR (dK md ops).2 l.toList i:=by
 unfold Region.free jR;cases h:ops[i]? with
 |none=>rw [fk h]
 |some oi=>
  rw [fj h];simp only [jg];rw [List.all_filter];congr 1;funext j;rw [gd];cases r:ops[j]? with
  |none=>cases(j==i)<;>cases(l.toList.getD j true)<;>simp
  |some q=>
   cases(j==i)<;>cases(l.toList.getD j true)<;>cases(q.after.any (fun e=>Region.binds md e&&e.on==i)||oi.apart ops q)<;>simp_all
theorem ml:Region.closedB md ops l=gU (dK md ops).2 l.toList:=by
 unfold Region.closedB gU;rw [eF];congr 1;funext j;rw [gd];cases h:ops[j]? with
 |none=>rw [fk h]
 |some o=>
  rw [fj h];simp only;rw [←iM];simp only [gd]
theorem jF:∀(fuel d:Nat),Region.reachB md ops i fuel d=gh (dK md ops).2 i fuel d
 |0,_=>rfl
 |fuel+1,d=>by
  unfold Region.reachB gh;cases h:ops[d]? with
  |none=>rw [fk h]
  |some o=>
   rw [fj h];simp only;rw [←l8];congr 1;funext e;rw [jF fuel]
theorem oQ:Region.lastB md ops l ds i=ls (dK md ops).2 l.toList ds i:=by
 unfold Region.lastB ls;rw [eF];congr 1;funext d;rw [gd,jF]
theorem gy(h:eH T.2 l.toList i=true)(y:dK md ops=T):(Region.ready md ops l).contains i=true:=by
 subst y;rw [fV];unfold fI;rw [List.contains_iff_mem,List.mem_filter,List.mem_range];refine⟨?_,h⟩;unfold eH at h;rw [Bool.and_eq_true]at h;cases q:(dK md ops).2[i]? with
 |none=>rw [q]at h;simp at h
 |some r=>exact(si.1 q).1
theorem hJ(h:(l.toList.set i true==l'.toList)=true):(l.setIfInBounds i true==l')=true:=by
 rw [rI]at h⊢;apply Array.ext';rw [Array.toList_setIfInBounds];exact h
def pU(T:Bool×List (List Nat×List Nat))(l l':List Bool)(i:Nat):Bool:=T.1&&jR T.2 l i&&eH T.2 l i&&(l.set i true==l')
theorem fP(q:dK md ops=T)(h:pU T l.toList l'.toList i=true):nX md ops l l' i=true:=by
 simp only [pU,Bool.and_eq_true]at h;obtain⟨⟨⟨h1,r⟩,y⟩,z⟩:=h;have D:=gy y q;have G:=hJ z;subst q;simp only [nX,Bool.and_eq_true];exact⟨⟨⟨h1,by rw [lv];exact r⟩,D⟩,G⟩
def mO(T:Bool×List (List Nat×List Nat))(ds:List Nat)(l l':List Bool)(i:Nat):Bool:=T.1&&jR T.2 l i&&eH T.2 l i&&gU T.2 l&&ls T.2 l ds i&&(l.set i true==l')
theorem oh(q:dK md ops=T)(h:mO T ds l.toList l'.toList i=true):takeB md ops ds l l' i=true:=by
 simp only [mO,Bool.and_eq_true]at h;obtain⟨⟨⟨⟨⟨h1,r⟩,y⟩,z⟩,D⟩,G⟩:=h;have J:=gy y q;have U:=hJ G;subst q;simp only [takeB,Bool.and_eq_true];exact⟨⟨⟨⟨⟨h1,by rw [lv];exact r⟩,J⟩,by rw [ml];exact z⟩,by rw [oQ];exact D⟩,U⟩
theorem gl(r:dK md ops=T)(h:(fI T.2 l.toList== [i]&&l.toList.set i true==l'.toList)=true):fJ md ops l l' i=true:=by
 simp only [Bool.and_eq_true]at h;obtain⟨h1,q⟩:=h;subst r;simp only [fJ,Bool.and_eq_true];exact⟨by rw [fV];exact h1,hJ q⟩
theorem pn(y:dK md ops=T)(h:(fI T.2 l.toList== [i,j]&&l.toList.set i true==li.toList&&l.toList.set j true==lj.toList)=true):(Region.ready md ops l== [i,j]&&l.setIfInBounds i true==li&&l.setIfInBounds j true==lj)=true:=by
 simp only [Bool.and_eq_true]at h⊢;obtain⟨⟨h1,q⟩,r⟩:=h;subst y;exact⟨⟨by rw [fV];exact h1,hJ q⟩,hJ r⟩
theorem di(q:dK md ops=T)(h:(fI T.2 l.toList== [])=true):(Region.ready md ops l== [])=true:=by
 subst q;rw [fV];exact h
def upM(B:List Nat)(d:Nat):List Nat→Nat
 |[]=>0
 |n::r=>(2^n|||(if n<d then B.getD n 0 else 0))|||upM B d r
def dq(T:List (List Nat×List Nat))(B:List Nat):Bool:=(List.range T.length).all fun d=>match T[d]? with
 |some r=>(B.getD d 0|||upM B d r.1)==upM B d r.1
 |none=>false
theorem k6{B:List Nat}{d i:Nat}:∀{q:List Nat},(upM B d q).testBit i=true→∃n∈q,n=i∨(n<d∧(B.getD n 0).testBit i=true)
 |[],h=>by simp [upM]at h
 |n::r,h=>by
  unfold upM at h;rw [Nat.testBit_or,Nat.testBit_or,Bool.or_eq_true,Bool.or_eq_true]at h;rcases h with(h|h)|h
  ·rw [Nat.testBit_two_pow]at h
   exact⟨n,rW, .inl (by simpa using h)⟩
  ·by_cases hn:n<d
   ·rw [if_pos hn]at h
    exact⟨n,rW, .inr ⟨hn,h⟩⟩
   ·rw [rq hn]at h
    simp at h
  ·obtain⟨m,z,y⟩:=k6 h
   exact⟨m,rX _ z,y⟩
theorem iJ{T:List (List Nat×List Nat)}{B:List Nat}(hB:dq T B=true):∀(fuel d:Nat),d<fuel→d<T.length→(B.getD d 0).testBit i=true→gh T i fuel d=true
 |0,d,h,_,_=>by omega
 |fuel+1,d,h,hd,D=>by
  have h1:=sh.1 hB d (List.mem_range.2 hd);cases hr:T[d]? with
  |none=>rw [hr]at h1;simp at h1
  |some r=>
   rw [hr]at h1;simp only [beq_iff_eq]at h1;have q:(upM B d r.1).testBit i=true:=(by rw [←h1,Nat.testBit_or,D,Bool.true_or]);obtain⟨n,hn,y⟩:=k6 q;unfold gh;rw [hr];simp only;rw [List.any_eq_true];refine⟨n,hn,?_⟩;rcases y with rfl|⟨G,z⟩;·simp
   ·rw [iJ hB fuel n (by omega) (by omega) z,Bool.or_true]
def o_(T:List (List Nat×List Nat))(B:List Nat)(l:List Bool)(ds:List Nat)(i:Nat):Bool:=ds.all fun d=>l.getD d true||(decide (d<T.length)&&(B.getD d 0).testBit i)
def mN(T:Bool×List (List Nat×List Nat))(B:List Nat)(ds:List Nat)(l l':List Bool)(i:Nat):Bool:=T.1&&jR T.2 l i&&eH T.2 l i&&gU T.2 l&&o_ T.2 B l ds i&&(l.set i true==l')
theorem mM{B:List Nat}(V:dK md ops=T)(hB:dq T.2 B=true)(h:mN T B ds l.toList l'.toList i=true):takeB md ops ds l l' i=true:=by
 refine oh V ?_;simp only [mN,mO,Bool.and_eq_true]at h⊢;obtain⟨⟨⟨⟨⟨h1,z⟩,D⟩,G⟩,r⟩,J⟩:=h;refine⟨⟨⟨⟨⟨h1,z⟩,D⟩,G⟩,?_⟩,J⟩;unfold o_ at r;unfold ls;rw [sh]at r⊢;intro d hd;have q:=r d hd;rw [Bool.or_eq_true,Bool.and_eq_true,decide_eq_true_eq]at q;rcases q with q|⟨y,U⟩;·rw [q,Bool.true_or]
 ·rw [iJ hB _ d y y U,Bool.or_true]
theorem cw{P:Program}{Q:Exit→Act→World→Prop}{S:World→Prop}{n:Nat}{a:Act}{w:World}{B:List Nat}(q:dK md ops=T)(hB:dq T.2 B=true)(h:aa (dK md ops=T)→aa (dq T.2 B=true)→bg P md ops Q S ds n l a w):bg P md ops Q S ds n l a w:=h ⟨q⟩ ⟨hB⟩
end
def fE:Code→Nat→Option (Array Oper)
 | .region id ops _,k=>if id==k then some ops else none
 | .seq a b,k=>match fE a k with
   |some o=>some o
   |none=>fE b k
 | .cond _ a b,k=>match fE a k with
   |some o=>some o
   |none=>fE b k
 | .block _ c,k=>fE c k
 | .loop c,k=>fE c k
 | .scope c,k=>fE c k
 | .rangeFunc _ _ a b,k=>match fE a k with
   |some o=>some o
   |none=>fE b k
 |_,_=>none
def fa(f:Func)(k:Nat):Array Oper:=((f.body.bind fun c=>fE c k)).getD #[]
end Go.Proofs.YtiphlfpainoeiaaGreatDoorW.PrintLast
namespace Go.Proofs.YtiphlfpainoeiaaGreatDoor.L
open Go.RowKit Go.Proofs.YtiphlfpainoeiaaGreatDoorW.PrintWords Go.Proofs.YtiphlfpainoeiaaGreatDoorW.PrintLast
section
variable {P:Program} {Q:Exit→Act→World→Prop} {md:Region.Mode} {ops:Array Oper} {S:World→Prop} {ds:List Nat} {T:Bool×List (List Nat×List Nat)} {oi:Oper} {v:Value} {fuel:Nat} {l l':Array Bool} {a a':Act} {w:World} {B:List Nat}
theorem puT(i n:Nat)(q:aa (dK md ops=T))(h:bg P md ops Q S ds fuel l' a' w)(hi:ops[i]? =some oi:=by exact rfl)(r:oi.dst=some n:=by exact rfl)
 (U:l.setIfInBounds i true=l':=by simp only [List.setIfInBounds_toArray,List.set_cons_zero,List.set_cons_succ];rfl)(D:pU T l.toList l'.toList i=true:=by kernel_rfl)(G:Region.wanted oi (yielded ops a.tmps)=true:=by rfl)
 (J:∀w,(execOp a.eval oi).run P w= .ok (.value v) w:=by intro V;go_simp;with_reducible rfl)(y:∀c a w,Q (.panic c) (a.put oi.dst v) w→Q (.panic c) a w:=by exact fun _ _ _ h=>h)(z:a.put (some n) v=a':=by simp only [Act.put,List.setIfInBounds_toArray,List.set_cons_zero,List.set_cons_succ,dI,fb];rfl):bg P md ops Q S ds (fuel+1) l a w:=
 gA l' hi r (fP q.out D) y (Or.inl ⟨G,J⟩) z h
theorem puK(i n:Nat)(h:bg P md ops Q S ds fuel l' a' w)(hi:ops[i]? =some oi:=by exact rfl)(q:oi.dst=some n:=by exact rfl)
 (J:l.setIfInBounds i true=l':=by simp only [List.setIfInBounds_toArray,List.set_cons_zero,List.set_cons_succ];rfl)(z:nX md ops l l' i=true:=by kernel_rfl)(D:Region.wanted oi (yielded ops a.tmps)=true:=by rfl)
 (G:∀w,(execOp a.eval oi).run P w= .ok (.value v) w:=by intro U;go_simp;with_reducible rfl)(r:∀c a w,Q (.panic c) (a.put oi.dst v) w→Q (.panic c) a w:=by exact fun _ _ _ h=>h)(y:a.put (some n) v=a':=by simp only [Act.put,List.setIfInBounds_toArray,List.set_cons_zero,List.set_cons_succ,dI,fb];rfl):bg P md ops Q S ds (fuel+1) l a w:=
 gA l' hi q z r (Or.inl ⟨D,G⟩) y h
theorem taT(i n:Nat)(y:aa (dK md ops=T))(r:aa (dq T.2 B=true))(G:S w)(h:bg P md ops Q S ds fuel l' a' w)(hi:ops[i]? =some oi:=by exact rfl)(z:oi.dst=some n:=by exact rfl)
 (Y:l.setIfInBounds i true=l':=by simp only [List.setIfInBounds_toArray,List.set_cons_zero,List.set_cons_succ];rfl)(U:mN T B ds l.toList l'.toList i=true:=by kernel_rfl)(V:Region.wanted oi (yielded ops a.tmps)=true:=by rfl)
 (X:∀w,S w→(execOp a.eval oi).run P w= .ok (.value v) w:=by intro Z q;(repeat obtain⟨_,q⟩:=q);go_simp;with_reducible rfl)(D:∀c a w,Q (.panic c) (a.put oi.dst v) w→Q (.panic c) a w:=by exact fun _ _ _ h=>h)(J:a.put (some n) v=a':=by simp only [Act.put,List.setIfInBounds_toArray,List.set_cons_zero,List.set_cons_succ,dI,fb];rfl):bg P md ops Q S ds (fuel+1) l a w:=
 o8 l' hi z (mM y.out r.out U) D (Or.inl ⟨V,X⟩) G J h
theorem taK(i n:Nat)(z:S w)(h:bg P md ops Q S ds fuel l' a' w)(hi:ops[i]? =some oi:=by exact rfl)(r:oi.dst=some n:=by exact rfl)
 (V:l.setIfInBounds i true=l':=by simp only [List.setIfInBounds_toArray,List.set_cons_zero,List.set_cons_succ];rfl)(G:takeB md ops ds l l' i=true:=by kernel_rfl)(J:Region.wanted oi (yielded ops a.tmps)=true:=by rfl)
 (U:∀w,S w→(execOp a.eval oi).run P w= .ok (.value v) w:=by intro X q;(repeat obtain⟨_,q⟩:=q);go_simp;with_reducible rfl)(y:∀c a w,Q (.panic c) (a.put oi.dst v) w→Q (.panic c) a w:=by exact fun _ _ _ h=>h)(D:a.put (some n) v=a':=by simp only [Act.put,List.setIfInBounds_toArray,List.set_cons_zero,List.set_cons_succ,dI,fb];rfl):bg P md ops Q S ds (fuel+1) l a w:=
 o8 l' hi r G y (Or.inl ⟨J,U⟩) z D h
theorem onT(i:Nat)(N:Option Tmp)(r:aa (dK md ops=T))(h:∀K:Act→World→Prop,Shut (∀a' q,S q→(S q→bg P md ops Q S ds fuel l' a' q)→K a' q)→if Region.wanted oi (yielded ops a.tmps)=true then Oper.wp P oi a w K Q else K (a.put N undef) w)
 (hi:ops[i]? =some oi:=by exact rfl)(y:oi.dst=N:=by exact rfl)(D:l.setIfInBounds i true=l':=by simp only [List.setIfInBounds_toArray,List.set_cons_zero,List.set_cons_succ];rfl)
 (z:(fI T.2 l.toList== [i]&&l.toList.set i true==l'.toList)=true:=by kernel_rfl)(hd:i∉ds:=by decide):bg P md ops Q S ds (fuel+1) l a w:=
 qi l' hi y (gl r.out z) hd h
theorem onK(i:Nat)(N:Option Tmp)(h:∀K:Act→World→Prop,Shut (∀a' q,S q→(S q→bg P md ops Q S ds fuel l' a' q)→K a' q)→if Region.wanted oi (yielded ops a.tmps)=true then Oper.wp P oi a w K Q else K (a.put N undef) w)
 (hi:ops[i]? =some oi:=by exact rfl)(r:oi.dst=N:=by exact rfl)(z:l.setIfInBounds i true=l':=by simp only [List.setIfInBounds_toArray,List.set_cons_zero,List.set_cons_succ];rfl)
 (y:fJ md ops l l' i=true:=by kernel_rfl)(hd:i∉ds:=by decide):bg P md ops Q S ds (fuel+1) l a w:=
 qi l' hi r y hd h
theorem nmS(h:bg P md ops Q S ds fuel l a' w)(q:a=a':=by show Act.put _ (some _) _=_;simp only [Act.put,List.setIfInBounds_toArray,List.set_cons_zero,List.set_cons_succ,dI,fb];rfl):bg P md ops Q S ds fuel l a w:=lp q h
end
end Go.Proofs.YtiphlfpainoeiaaGreatDoor.L
namespace Go.Proofs.YtiphlfpainoeiaaGreatDoor.L
open Go.RowKit Go.Proofs.YtiphlfpainoeiaaGreatDoorW.PrintWords Go.Proofs.YtiphlfpainoeiaaGreatDoorW.PrintLast Go.Proofs.YtiphlfpainoeiaaGreatDoorW.PrintMore
attribute [local go_sem] cj cB
theorem ig:(Tryz.prog.info? 3).map (fun i=>(i.zero,i.size,i.bytes))=some (some (.int .i64 0),1,8):=by kernel_rfl
theorem b8:(Tryz.prog.info? 5).map (fun i=>(i.zero,i.size,i.bytes))=some (some (.int .u8 0),1,1):=by kernel_rfl
theorem ic:(Tryz.prog.info? 84).map (fun i=>(i.zero,i.size,i.bytes))=some (some (.agg #[(.int .i64 0),(.int .i64 0),(.float .f64 0),(.string ⟨#[]⟩)]),4,40):=by kernel_rfl
structure S84 where
 f0:Int
 f1:Int
 f2:Nat
 f3:ByteArray
def z84:S84:=⟨(0:Int),(0:Int),(0:Nat),(⟨#[]⟩:ByteArray)⟩
def k84:Kd S84:=Kd.iso (Kd.pair (Kd.int .i64) (Kd.pair (Kd.int .i64) (Kd.pair Kd.f64 Kd.string))) (fun x:S84=>(x.f0,x.f1,x.f2,x.f3))
theorem jP{w:World}{x:S84}{cs:List Value}(h:k84.K w x cs):cs= [.int .i64 x.f0, .int .i64 x.f1, .float .f64 x.f2, .string x.f3]:=by
 obtain⟨_,_,rfl,rfl,⟨_,_,rfl,rfl,⟨_,_,rfl,rfl,rfl⟩⟩⟩:=h;exact rfl
theorem nx(w:World)(x:S84):k84.K w x [.int .i64 x.f0, .int .i64 x.f1, .float .f64 x.f2, .string x.f3]:=⟨[.int .i64 x.f0],[.int .i64 x.f1, .float .f64 x.f2, .string x.f3],rfl,rfl,⟨[.int .i64 x.f1],[.float .f64 x.f2, .string x.f3],rfl,rfl,⟨[.float .f64 x.f2],[.string x.f3],rfl,rfl,rfl⟩⟩⟩
theorem fo(w:World)(base:Nat)(ok:Nat→Prop)(x:S84):k84.M w base ok x [.int .i64 x.f0, .int .i64 x.f1, .float .f64 x.f2, .string x.f3]:=⟨[.int .i64 x.f0],[.int .i64 x.f1, .float .f64 x.f2, .string x.f3],rfl,rfl,⟨[.int .i64 x.f1],[.float .f64 x.f2, .string x.f3],rfl,rfl,⟨[.float .f64 x.f2],[.string x.f3],rfl,rfl,rfl⟩⟩⟩
def af(xs:List S84)(i:Int):S84:=xs.getD i.toNat z84
theorem dn{w:World}{A:Option Addr}{n:Nat}{xs:List S84}(h:Kd.C k84 w A n xs)(i:Int)(r:0≤i)(h1:i<n):∃ad,A=some ad∧w.cell? (ad.add (i.toNat*4))=some (.int .i64 (af xs i).f0)∧w.cell? ⟨(ad.add (i.toNat*4)).block,(ad.add (i.toNat*4)).off+1,none⟩=some (.int .i64 (af xs i).f1)∧w.cell? ⟨(ad.add (i.toNat*4)).block,(ad.add (i.toNat*4)).off+2,none⟩=some (.float .f64 (af xs i).f2)∧w.cell? ⟨(ad.add (i.toNat*4)).block,(ad.add (i.toNat*4)).off+3,none⟩=some (.string (af xs i).f3):=by
 obtain⟨ad,c,e,_,y,z⟩:=Kd.C_get h z84 i r h1;have q:∀j u,c[j]? =some u→w.cell? (ad.add (i.toNat*4+j))=some u:=z;obtain rfl:=jP y;exact⟨ad,e,q 0 _ rfl,by rw [←cm _ _ 1 (by omega)];exact q 1 _ rfl,by rw [←cm _ _ 2 (by omega)];exact q 2 _ rfl,by rw [←cm _ _ 3 (by omega)];exact q 3 _ rfl⟩
structure S86 where
 f0:ByteArray
 f1:Int
 f2:Bool
 f3:S84
def z86:S86:=⟨(⟨#[]⟩:ByteArray),(0:Int),false,z84⟩
def k86:Kd S86:=Kd.iso (Kd.pair Kd.string (Kd.pair (Kd.int .i64) (Kd.pair Kd.bool k84))) (fun x:S86=>(x.f0,x.f1,x.f2,x.f3))
theorem nu{w:World}{x:S86}{cs:List Value}(h:k86.K w x cs):cs= [.string x.f0, .int .i64 x.f1, .bool x.f2, .int .i64 x.f3.f0, .int .i64 x.f3.f1, .float .f64 x.f3.f2, .string x.f3.f3]:=by
 obtain⟨_,_,rfl,rfl,⟨_,_,rfl,rfl,⟨_,_,rfl,rfl,q⟩⟩⟩:=h;obtain rfl:=jP q;exact rfl
theorem pH(w:World)(x:S86):k86.K w x [.string x.f0, .int .i64 x.f1, .bool x.f2, .int .i64 x.f3.f0, .int .i64 x.f3.f1, .float .f64 x.f3.f2, .string x.f3.f3]:=⟨[.string x.f0],[.int .i64 x.f1, .bool x.f2, .int .i64 x.f3.f0, .int .i64 x.f3.f1, .float .f64 x.f3.f2, .string x.f3.f3],rfl,rfl,⟨[.int .i64 x.f1],[.bool x.f2, .int .i64 x.f3.f0, .int .i64 x.f3.f1, .float .f64 x.f3.f2, .string x.f3.f3],rfl,rfl,⟨[.bool x.f2],[.int .i64 x.f3.f0, .int .i64 x.f3.f1, .float .f64 x.f3.f2, .string x.f3.f3],rfl,rfl,(nx w x.f3)⟩⟩⟩
theorem oT(w:World)(base:Nat)(ok:Nat→Prop)(x:S86):k86.M w base ok x [.string x.f0, .int .i64 x.f1, .bool x.f2, .int .i64 x.f3.f0, .int .i64 x.f3.f1, .float .f64 x.f3.f2, .string x.f3.f3]:=⟨[.string x.f0],[.int .i64 x.f1, .bool x.f2, .int .i64 x.f3.f0, .int .i64 x.f3.f1, .float .f64 x.f3.f2, .string x.f3.f3],rfl,rfl,⟨[.int .i64 x.f1],[.bool x.f2, .int .i64 x.f3.f0, .int .i64 x.f3.f1, .float .f64 x.f3.f2, .string x.f3.f3],rfl,rfl,⟨[.bool x.f2],[.int .i64 x.f3.f0, .int .i64 x.f3.f1, .float .f64 x.f3.f2, .string x.f3.f3],rfl,rfl,(fo w base ok x.f3)⟩⟩⟩
def bx(xs:List S86)(i:Int):S86:=xs.getD i.toNat z86
theorem eL{w:World}{A:Option Addr}{n:Nat}{xs:List S86}(h:Kd.C k86 w A n xs)(i:Int)(r:0≤i)(h1:i<n):∃ad,A=some ad∧w.cell? (ad.add (i.toNat*7))=some (.string (bx xs i).f0)∧w.cell? ⟨(ad.add (i.toNat*7)).block,(ad.add (i.toNat*7)).off+1,none⟩=some (.int .i64 (bx xs i).f1)∧w.cell? ⟨(ad.add (i.toNat*7)).block,(ad.add (i.toNat*7)).off+2,none⟩=some (.bool (bx xs i).f2)∧w.cell? ⟨(ad.add (i.toNat*7)).block,(ad.add (i.toNat*7)).off+3,none⟩=some (.int .i64 (bx xs i).f3.f0)∧w.cell? ⟨(ad.add (i.toNat*7)).block,(ad.add (i.toNat*7)).off+4,none⟩=some (.int .i64 (bx xs i).f3.f1)∧w.cell? ⟨(ad.add (i.toNat*7)).block,(ad.add (i.toNat*7)).off+5,none⟩=some (.float .f64 (bx xs i).f3.f2)∧w.cell? ⟨(ad.add (i.toNat*7)).block,(ad.add (i.toNat*7)).off+6,none⟩=some (.string (bx xs i).f3.f3):=by
 obtain⟨ad,c,e,_,y,z⟩:=Kd.C_get h z86 i r h1;have q:∀j u,c[j]? =some u→w.cell? (ad.add (i.toNat*7+j))=some u:=z;obtain rfl:=nu y;exact⟨ad,e,q 0 _ rfl,by rw [←cm _ _ 1 (by omega)];exact q 1 _ rfl,by rw [←cm _ _ 2 (by omega)];exact q 2 _ rfl,by rw [←cm _ _ 3 (by omega)];exact q 3 _ rfl,by rw [←cm _ _ 4 (by omega)];exact q 4 _ rfl,by rw [←cm _ _ 5 (by omega)];exact q 5 _ rfl,by rw [←cm _ _ 6 (by omega)];exact q 6 _ rfl⟩
structure S88 where
 f0:ByteArray
 f1:(List Int)
 f2:Bool
def z88:S88:=⟨(⟨#[]⟩:ByteArray),([]:List Int),false⟩
def k88:Kd S88:=Kd.iso (Kd.pair Kd.string (Kd.pair (Kd.slice 3 (Kd.int .i64)) Kd.bool)) (fun x:S88=>(x.f0,x.f1,x.f2))
theorem nt{w:World}{x:S88}{cs:List Value}(h:k88.K w x cs):∃A1 c1,cs= [.string x.f0, .slice A1 x.f1.length c1, .bool x.f2]∧x.f1.length≤c1∧(Kd.int .i64).C w A1 x.f1.length x.f1:=by
 obtain⟨_,_,rfl,rfl,⟨_,_,rfl,⟨A1,c1,rfl,l1,g1⟩,rfl⟩⟩:=h;exact⟨A1,c1,rfl,l1,g1⟩
theorem pG(w:World)(x:S88){A1:Option Addr}{c1:Nat}(l1:x.f1.length≤c1)(g1:(Kd.int .i64).C w A1 x.f1.length x.f1):k88.K w x [.string x.f0, .slice A1 x.f1.length c1, .bool x.f2]:=⟨[.string x.f0],[.slice A1 x.f1.length c1, .bool x.f2],rfl,rfl,⟨[.slice A1 x.f1.length c1],[.bool x.f2],rfl,⟨A1,c1,rfl,l1,g1⟩,rfl⟩⟩
theorem oS(w:World)(base:Nat)(ok:Nat→Prop)(x:S88){v1:Value}(g1:(Kd.int .i64).R 3 w base ok v1 x.f1):k88.M w base ok x [.string x.f0,v1, .bool x.f2]:=⟨[.string x.f0],[v1, .bool x.f2],rfl,rfl,⟨[v1],[.bool x.f2],rfl,⟨v1,rfl,g1⟩,rfl⟩⟩
def cb(xs:List S88)(i:Int):S88:=xs.getD i.toNat z88
theorem jh{w:World}{A:Option Addr}{n:Nat}{xs:List S88}(h:Kd.C k88 w A n xs)(i:Int)(r:0≤i)(h1:i<n):∃ad A1 c1,A=some ad∧w.cell? (ad.add (i.toNat*3))=some (.string (cb xs i).f0)∧w.cell? ⟨(ad.add (i.toNat*3)).block,(ad.add (i.toNat*3)).off+1,none⟩=some (.slice A1 (cb xs i).f1.length c1)∧w.cell? ⟨(ad.add (i.toNat*3)).block,(ad.add (i.toNat*3)).off+2,none⟩=some (.bool (cb xs i).f2)∧(cb xs i).f1.length≤c1∧(Kd.int .i64).C w A1 (cb xs i).f1.length (cb xs i).f1:=by
 obtain⟨ad,c,e,_,y,z⟩:=Kd.C_get h z88 i r h1;have q:∀j u,c[j]? =some u→w.cell? (ad.add (i.toNat*3+j))=some u:=z;obtain⟨A1,c1,rfl,l1,g1⟩:=nt y;exact⟨ad,A1,c1,e,q 0 _ rfl,by rw [←cm _ _ 1 (by omega)];exact q 1 _ rfl,by rw [←cm _ _ 2 (by omega)];exact q 2 _ rfl,l1,g1⟩
structure S90 where
 f0:(List Int)
 f1:ByteArray
def z90:S90:=⟨([]:List Int),(⟨#[]⟩:ByteArray)⟩
def k90:Kd S90:=Kd.iso (Kd.pair (Kd.slice 3 (Kd.int .i64)) Kd.string) (fun x:S90=>(x.f0,x.f1))
theorem nr{w:World}{x:S90}{cs:List Value}(h:k90.K w x cs):∃q r,cs= [.slice q x.f0.length r, .string x.f1]∧x.f0.length≤r∧(Kd.int .i64).C w q x.f0.length x.f0:=by
 obtain⟨_,_,rfl,⟨q,r,rfl,l0,y⟩,rfl⟩:=h;exact⟨q,r,rfl,l0,y⟩
theorem pF(w:World)(x:S90){h:Option Addr}{q:Nat}(l0:x.f0.length≤q)(r:(Kd.int .i64).C w h x.f0.length x.f0):k90.K w x [.slice h x.f0.length q, .string x.f1]:=⟨[.slice h x.f0.length q],[.string x.f1],rfl,⟨h,q,rfl,l0,r⟩,rfl⟩
theorem oR(w:World)(base:Nat)(ok:Nat→Prop)(x:S90){v0:Value}(h:(Kd.int .i64).R 3 w base ok v0 x.f0):k90.M w base ok x [v0, .string x.f1]:=⟨[v0],[.string x.f1],rfl,⟨v0,rfl,h⟩,rfl⟩
def c_(xs:List S90)(i:Int):S90:=xs.getD i.toNat z90
theorem kU{w:World}{A:Option Addr}{n:Nat}{xs:List S90}(h:Kd.C k90 w A n xs)(i:Int)(D:0≤i)(h1:i<n):∃ad q r,A=some ad∧w.cell? (ad.add (i.toNat*2))=some (.slice q (c_ xs i).f0.length r)∧w.cell? ⟨(ad.add (i.toNat*2)).block,(ad.add (i.toNat*2)).off+1,none⟩=some (.string (c_ xs i).f1)∧(c_ xs i).f0.length≤r∧(Kd.int .i64).C w q (c_ xs i).f0.length (c_ xs i).f0:=by
 obtain⟨ad,c,e,_,G,J⟩:=Kd.C_get h z90 i D h1;have y:∀j u,c[j]? =some u→w.cell? (ad.add (i.toNat*2+j))=some u:=J;obtain⟨q,r,rfl,l0,z⟩:=nr G;exact⟨ad,q,r,e,y 0 _ rfl,by rw [←cm _ _ 1 (by omega)];exact y 1 _ rfl,l0,z⟩
structure S48 where
 f0:ByteArray
 f1:(List S86)
 f2:(List Int)
 f3:(List S88)
 f4:(List S90)
def z48:S48:=⟨(⟨#[]⟩:ByteArray),([]:List S86),([]:List Int),([]:List S88),([]:List S90)⟩
def k48:Kd S48:=Kd.iso (Kd.pair Kd.string (Kd.pair (Kd.slice 86 k86) (Kd.pair (Kd.slice 3 (Kd.int .i64)) (Kd.pair (Kd.slice 88 k88) (Kd.slice 90 k90))))) (fun x:S48=>(x.f0,x.f1,x.f2,x.f3,x.f4))
theorem nz{w:World}{x:S48}{cs:List Value}(h:k48.K w x cs):∃A1 c1 A2 c2 A3 c3 A4 c4,cs= [.string x.f0, .slice A1 x.f1.length c1, .slice A2 x.f2.length c2, .slice A3 x.f3.length c3, .slice A4 x.f4.length c4]∧x.f1.length≤c1∧k86.C w A1 x.f1.length x.f1∧x.f2.length≤c2∧(Kd.int .i64).C w A2 x.f2.length x.f2∧x.f3.length≤c3∧k88.C w A3 x.f3.length x.f3∧x.f4.length≤c4∧k90.C w A4 x.f4.length x.f4:=by
 obtain⟨_,_,rfl,rfl,⟨_,_,rfl,⟨A1,c1,rfl,l1,g1⟩,⟨_,_,rfl,⟨A2,c2,rfl,l2,q⟩,⟨_,_,rfl,⟨A3,c3,rfl,l3,g3⟩,⟨A4,c4,rfl,l4,g4⟩⟩⟩⟩⟩:=h;exact⟨A1,c1,A2,c2,A3,c3,A4,c4,rfl,l1,g1,l2,q,l3,g3,l4,g4⟩
theorem pJ(w:World)(x:S48){A1:Option Addr}{c1:Nat}(l1:x.f1.length≤c1)(g1:k86.C w A1 x.f1.length x.f1){A2:Option Addr}{c2:Nat}(l2:x.f2.length≤c2)(h:(Kd.int .i64).C w A2 x.f2.length x.f2){A3:Option Addr}{c3:Nat}(l3:x.f3.length≤c3)(g3:k88.C w A3 x.f3.length x.f3){A4:Option Addr}{c4:Nat}(l4:x.f4.length≤c4)(g4:k90.C w A4 x.f4.length x.f4):k48.K w x [.string x.f0, .slice A1 x.f1.length c1, .slice A2 x.f2.length c2, .slice A3 x.f3.length c3, .slice A4 x.f4.length c4]:=⟨[.string x.f0],[.slice A1 x.f1.length c1, .slice A2 x.f2.length c2, .slice A3 x.f3.length c3, .slice A4 x.f4.length c4],rfl,rfl,⟨[.slice A1 x.f1.length c1],[.slice A2 x.f2.length c2, .slice A3 x.f3.length c3, .slice A4 x.f4.length c4],rfl,⟨A1,c1,rfl,l1,g1⟩,⟨[.slice A2 x.f2.length c2],[.slice A3 x.f3.length c3, .slice A4 x.f4.length c4],rfl,⟨A2,c2,rfl,l2,h⟩,⟨[.slice A3 x.f3.length c3],[.slice A4 x.f4.length c4],rfl,⟨A3,c3,rfl,l3,g3⟩,⟨A4,c4,rfl,l4,g4⟩⟩⟩⟩⟩
theorem oV(w:World)(base:Nat)(ok:Nat→Prop)(x:S48){v1:Value}(g1:k86.R 86 w base ok v1 x.f1){h:Value}(q:(Kd.int .i64).R 3 w base ok h x.f2){v3:Value}(g3:k88.R 88 w base ok v3 x.f3){v4:Value}(g4:k90.R 90 w base ok v4 x.f4):k48.M w base ok x [.string x.f0,v1,h,v3,v4]:=⟨[.string x.f0],[v1,h,v3,v4],rfl,rfl,⟨[v1],[h,v3,v4],rfl,⟨v1,rfl,g1⟩,⟨[h],[v3,v4],rfl,⟨h,rfl,q⟩,⟨[v3],[v4],rfl,⟨v3,rfl,g3⟩,⟨v4,rfl,g4⟩⟩⟩⟩⟩
def ax(xs:List S48)(i:Int):S48:=xs.getD i.toNat z48
theorem eC{w:World}{A:Option Addr}{n:Nat}{xs:List S48}(h:Kd.C k48 w A n xs)(i:Int)(y:0≤i)(h1:i<n):∃ad A1 c1 A2 c2 A3 c3 A4 c4,A=some ad∧w.cell? (ad.add (i.toNat*5))=some (.string (ax xs i).f0)∧w.cell? ⟨(ad.add (i.toNat*5)).block,(ad.add (i.toNat*5)).off+1,none⟩=some (.slice A1 (ax xs i).f1.length c1)∧w.cell? ⟨(ad.add (i.toNat*5)).block,(ad.add (i.toNat*5)).off+2,none⟩=some (.slice A2 (ax xs i).f2.length c2)∧w.cell? ⟨(ad.add (i.toNat*5)).block,(ad.add (i.toNat*5)).off+3,none⟩=some (.slice A3 (ax xs i).f3.length c3)∧w.cell? ⟨(ad.add (i.toNat*5)).block,(ad.add (i.toNat*5)).off+4,none⟩=some (.slice A4 (ax xs i).f4.length c4)∧(ax xs i).f1.length≤c1∧k86.C w A1 (ax xs i).f1.length (ax xs i).f1∧(ax xs i).f2.length≤c2∧(Kd.int .i64).C w A2 (ax xs i).f2.length (ax xs i).f2∧(ax xs i).f3.length≤c3∧k88.C w A3 (ax xs i).f3.length (ax xs i).f3∧(ax xs i).f4.length≤c4∧k90.C w A4 (ax xs i).f4.length (ax xs i).f4:=by
 obtain⟨ad,c,e,_,z,D⟩:=Kd.C_get h z48 i y h1;have q:∀j u,c[j]? =some u→w.cell? (ad.add (i.toNat*5+j))=some u:=D;obtain⟨A1,c1,A2,c2,A3,c3,A4,c4,rfl,l1,g1,l2,r,l3,g3,l4,g4⟩:=nz z;exact⟨ad,A1,c1,A2,c2,A3,c3,A4,c4,e,q 0 _ rfl,by rw [←cm _ _ 1 (by omega)];exact q 1 _ rfl,by rw [←cm _ _ 2 (by omega)];exact q 2 _ rfl,by rw [←cm _ _ 3 (by omega)];exact q 3 _ rfl,by rw [←cm _ _ 4 (by omega)];exact q 4 _ rfl,l1,g1,l2,r,l3,g3,l4,g4⟩
structure S52 where
 f0:Int
 f1:ByteArray
 f2:Bool
 f3:(List S84)
def z52:S52:=⟨(0:Int),(⟨#[]⟩:ByteArray),false,([]:List S84)⟩
def k52:Kd S52:=Kd.iso (Kd.pair (Kd.int .i64) (Kd.pair Kd.string (Kd.pair Kd.bool (Kd.slice 84 k84)))) (fun x:S52=>(x.f0,x.f1,x.f2,x.f3))
theorem ny{w:World}{x:S52}{cs:List Value}(h:k52.K w x cs):∃A3 c3,cs= [.int .i64 x.f0, .string x.f1, .bool x.f2, .slice A3 x.f3.length c3]∧x.f3.length≤c3∧k84.C w A3 x.f3.length x.f3:=by
 obtain⟨_,_,rfl,rfl,⟨_,_,rfl,rfl,⟨_,_,rfl,rfl,⟨A3,c3,rfl,l3,g3⟩⟩⟩⟩:=h;exact⟨A3,c3,rfl,l3,g3⟩
theorem pI(w:World)(x:S52){A3:Option Addr}{c3:Nat}(l3:x.f3.length≤c3)(g3:k84.C w A3 x.f3.length x.f3):k52.K w x [.int .i64 x.f0, .string x.f1, .bool x.f2, .slice A3 x.f3.length c3]:=⟨[.int .i64 x.f0],[.string x.f1, .bool x.f2, .slice A3 x.f3.length c3],rfl,rfl,⟨[.string x.f1],[.bool x.f2, .slice A3 x.f3.length c3],rfl,rfl,⟨[.bool x.f2],[.slice A3 x.f3.length c3],rfl,rfl,⟨A3,c3,rfl,l3,g3⟩⟩⟩⟩
theorem oU(w:World)(base:Nat)(ok:Nat→Prop)(x:S52){v3:Value}(g3:k84.R 84 w base ok v3 x.f3):k52.M w base ok x [.int .i64 x.f0, .string x.f1, .bool x.f2,v3]:=⟨[.int .i64 x.f0],[.string x.f1, .bool x.f2,v3],rfl,rfl,⟨[.string x.f1],[.bool x.f2,v3],rfl,rfl,⟨[.bool x.f2],[v3],rfl,rfl,⟨v3,rfl,g3⟩⟩⟩⟩
def ah(xs:List S52)(i:Int):S52:=xs.getD i.toNat z52
theorem cv{w:World}{A:Option Addr}{n:Nat}{xs:List S52}(h:Kd.C k52 w A n xs)(i:Int)(r:0≤i)(h1:i<n):∃ad A3 c3,A=some ad∧w.cell? (ad.add (i.toNat*4))=some (.int .i64 (ah xs i).f0)∧w.cell? ⟨(ad.add (i.toNat*4)).block,(ad.add (i.toNat*4)).off+1,none⟩=some (.string (ah xs i).f1)∧w.cell? ⟨(ad.add (i.toNat*4)).block,(ad.add (i.toNat*4)).off+2,none⟩=some (.bool (ah xs i).f2)∧w.cell? ⟨(ad.add (i.toNat*4)).block,(ad.add (i.toNat*4)).off+3,none⟩=some (.slice A3 (ah xs i).f3.length c3)∧(ah xs i).f3.length≤c3∧k84.C w A3 (ah xs i).f3.length (ah xs i).f3:=by
 obtain⟨ad,c,e,_,y,z⟩:=Kd.C_get h z52 i r h1;have q:∀j u,c[j]? =some u→w.cell? (ad.add (i.toNat*4+j))=some u:=z;obtain⟨A3,c3,rfl,l3,g3⟩:=ny y;exact⟨ad,A3,c3,e,q 0 _ rfl,by rw [←cm _ _ 1 (by omega)];exact q 1 _ rfl,by rw [←cm _ _ 2 (by omega)];exact q 2 _ rfl,by rw [←cm _ _ 3 (by omega)];exact q 3 _ rfl,l3,g3⟩
def b6.f(a0:ByteArray)(h:Int):Option (ByteArray×ByteArray×Bool):=if h>(a0.size:Int)then(some ((⟨#[]⟩:ByteArray),(⟨#[]⟩:ByteArray),false))else(if 0≤h then(if h≤(a0.size:Int)then(some (a0.extract 0 (h:Int).toNat,a0.extract (h:Int).toNat a0.size,true))else(none))else(none))
set_option maxHeartbeats 8000000 in
set_option maxRecDepth 100000 in
theorem b6.calls(a0:ByteArray)(q:Int)(r1:ByteArray)(r2:ByteArray)(r3:Bool)(w:World)(h:b6.f a0 q=some (r1,r2,r3)):
 Calls Tryz.prog 137 #[.string a0, .int .i64 q] w fun e y=>e= .returned (.tuple #[.string r1, .string r2, .bool r3])∧bM w y:=by
 have H:(if q>(a0.size:Int)then(some ((⟨#[]⟩:ByteArray),(⟨#[]⟩:ByteArray),false))else(if 0≤q then(if q≤(a0.size:Int)then(some (a0.extract 0 (q:Int).toNat,a0.extract (q:Int).toNat a0.size,true))else(none))else(none)))=some (r1,r2,r3):=h;clear h;by_cases c3:q>(a0.size:Int)
 ·rw [rp c3]at H
  have r:decide ((a0.size:Int)<q)=true:=ru c3;clear c3;simp only [Option.some.injEq,Prod.mk.injEq]at H;obtain⟨rfl,rfl,rfl⟩:=H;go_enter Tryz.func137,Tryz.ntmps137;go_wp2
  go_ret3
  exact⟨by rfl,by repeat(exact bM.refl _)⟩
 ·rw [rq c3]at H
  have r:decide ((a0.size:Int)<q)=false:=rC c3;clear c3;by_cases c4:0≤q
  ·rw [rp c4]at H
   have z:=rF c4;have D:decide (0≤q)=true:=ru c4;clear c4;by_cases c5:q≤(a0.size:Int)
   ·rw [rp c5]at H
    have G:=rF c5;have J:decide (q≤(a0.size:Int))=true:=ru c5;clear c5;simp only [Option.some.injEq,Prod.mk.injEq]at H;obtain⟨rfl,rfl,rfl⟩:=H;go_enter Tryz.func137,Tryz.ntmps137;go_wp2;repeat(go_quiet (fail);try go_wp2)
    go_ret3
    exact⟨by rfl,by repeat(first|exact bM.refl _|apply bM.step)⟩
   ·rw [rq c5]at H
    exact absurd H (by simp)
  ·rw [if_neg c4]at H
   exact absurd H (by simp)
def a_.l0:Nat→ByteArray→Int→Int→Int→Option (Int)
 |0,_,_,_,_=>none
 |k+1,q,r,y,h=>if h<y then(if 0≤h then(if h<(q.size:Int)then(a_.l0 k q (Go.bits .or .u64 (IntKind.u64.wrap (r*256)) (IntKind.u64.wrap (bt q h))) y (wrap64 (h+1)))else(none))else(none))else(some r)
def a_.f(k:Nat)(a0:ByteArray):Option (Int):=a_.l0 k a0 0 (a0.size:Int) 0
theorem a_.mono_l:∀k,(∀q y z D,LeO (a_.l0 k q y z D) (a_.l0 (k+1) q y z D))
 |0=>fun _ _ _ _ r h=>by simp [a_.l0]at h
 |k+1=>by
  have G:=a_.mono_l k
  ·intro q y z D
   unfold a_.l0
   repeat' first|(with_reducible exact G _ _ _ _)|(with_reducible exact LeO.refl _)|(with_reducible exact LeO.none _)|(with_reducible refine LeO.ite ?_ ?_)|(with_reducible refine LeO.bind ?_ (fun _=>?_))|exact G _ _ _ _|exact LeO.none _|refine LeO.ite ?_ ?_|refine LeO.bind ?_ (fun _=>?_)
theorem a_.mono:∀a0 k,LeO (a_.f k a0) (a_.f (k+1) a0):=by
 intro a0 k;have h:=a_.mono_l k;unfold a_.f
 repeat' first|(with_reducible exact h _ _ _ _)|(with_reducible exact LeO.refl _)|(with_reducible exact LeO.none _)|(with_reducible refine LeO.ite ?_ ?_)|(with_reducible refine LeO.bind ?_ (fun _=>?_))|exact h _ _ _ _|exact LeO.none _|refine LeO.ite ?_ ?_|refine LeO.bind ?_ (fun _=>?_)
set_option maxHeartbeats 8000000 in
set_option maxRecDepth 100000 in
theorem a_.calls(k:Nat)(a0:ByteArray)(r:Int)(w:World)(h:a_.f k a0=some r):
 Calls Tryz.prog 161 #[.string a0] w fun e G=>e= .returned (.int .u64 r)∧bM w G:=by
 have H:(a_.l0 k a0 0 (a0.size:Int) 0)=some r:=h;clear h;have y:=aa.mk H;clear H;go_enter Tryz.func161,Tryz.ntmps161;go_wp2
 go_loopg [3,7] k (fun U v3 v7 G=>∃(z:Int) (q:Int),v3= .int .u64 z∧v7= .int .i64 q∧aa (a_.l0 U a0 z (a0.size:Int) q=some r)∧aa (U≤k)∧bM w G)
 case atStart=>exact⟨(0),(0),rfl,rfl,y,⟨rA _⟩,by repeat(exact bM.refl _)⟩
 case round=>
  clear y;obtain⟨z,q,rfl,rfl,D,J,⟨m1,rfl⟩⟩:=hrel;cases gk with
  |zero=>exact absurd D.out (by simp [a_.l0])
  |succ Z=>
   have H:=D.out;clear D;simp only [a_.l0]at H;by_cases c2:q<(a0.size:Int)
   ·rw [rp c2]at H
    have Y:decide (q<(a0.size:Int))=true:=ru c2;clear c2;by_cases c3:0≤q
    ·rw [rp c3]at H
     have c3b0:decide (0≤q)=true:=ru c3;clear c3;by_cases c4:q<(a0.size:Int)
     ·rw [rp c4]at H
      have c4b0:decide (q<(a0.size:Int))=true:=ru c4;clear c4;have y:=aa.mk H;clear H;have V:0≤(q:Int):=dA;have X:q<(a0.size:Int):=dA;have hx5:=dy a0 q;replace V:=rF V;replace X:=rF X;go_wp2
      go_roundg Z
      case measure=>have:=J.out;omega
      case rel=>exact⟨(Go.bits .or .u64 (IntKind.u64.wrap (z*256)) (IntKind.u64.wrap (bt a0 q))),(wrap64 (q+1)),rfl,rfl,y,⟨by have:=J.out;omega⟩,by repeat(first|exact bM.refl _|apply bM.step)⟩
     ·rw [rq c4]at H
      exact absurd H (by simp)
    ·rw [if_neg c3]at H
     exact absurd H (by simp)
   ·rw [if_neg c2]at H
    have Y:decide (q<(a0.size:Int))=false:=rC c2;clear c2;obtain rfl:=rD H;go_wp2;go_ret;exact⟨by rfl,by repeat(first|exact bM.refl _|apply bM.step)⟩
def cM.f(a0:Int):Option (Int):=(dS.f a0).bind fun t103=>(some (wrap64 (Int.tdiv (wrap64 (t103+7)) 8)))
set_option maxHeartbeats 8000000 in
set_option maxRecDepth 100000 in
theorem cM.calls(a0:Int)(r:Int)(w:World)(h:cM.f a0=some r):
 Calls Tryz.prog 162 #[.int .u64 a0] w fun e y=>e= .returned (.int .i64 r)∧bM w y:=by
 have H:((dS.f a0).bind fun t103=>(some (wrap64 (Int.tdiv (wrap64 (t103+7)) 8))))=some r:=h;clear h;replace H:=rB.mp H;obtain⟨t103,q,H⟩:=H;replace H:(some (wrap64 (Int.tdiv (wrap64 (t103+7)) 8)))=some r:=H;have A2:=aa.mk q;clear q;obtain rfl:=rD H;go_enter Tryz.func162,Tryz.ntmps162;go_wp2_with ((go_at_call 165;(with_reducible refine(dS.calls a0 t103 _ A2.out).mono ?_);rintro e y ⟨rfl,⟨z,rfl⟩⟩));go_ret;exact⟨by rfl,by repeat(first|exact bM.refl _|apply bM.step)⟩
def bG.l0:Nat→List Int→Int→Int→Option (List Int)
 |0,_,_,_=>none
 |k+1,q,r,h=>if h≥0 then(if 0≤(wrap64 (8*h))then(if q.length<140737488355328 then(bG.l0 k (q++ [(shr .u64 r (wrap64 (8*h)))%256]) r (wrap64 (h-1)))else(none))else(none))else(some q)
def bG.f(k:Nat)(l0:List Int)(h:Int)(q:Int):Option (List Int):=bG.l0 k l0 h (wrap64 (q-1))
set_option maxHeartbeats 8000000 in
set_option maxRecDepth 100000 in
theorem bG.calls(k:Nat)(G:Nat→Prop)(u9000_:Value)(l0:List Int)(z:Int)(a2:Int)(r:List Int)(w0 w:World)(hB:Below w0.heap.size w0 w)(ho0:Kd.R (Kd.int .u8) 5 w w0.heap.size G u9000_ l0)(h:bG.f k l0 z a2=some r):
 Calls Tryz.prog 163 #[u9000_, .int .u64 z, .int .i64 a2] w fun e V=>∃v0_:Value,e= .returned (v0_)∧Kd.R (Kd.int .u8) 5 V w0.heap.size (fun q=>(G q∨w.heap.size≤q)) v0_ r∧Below w0.heap.size w0 V∧bV w V (fun q=>G q):=by
 have HO0:=aa.mk (show Kd.R (Kd.int .u8) 5 w w0.heap.size (fun q=>(G q∨w.heap.size≤q)) u9000_ l0 from Kd.R_mono ho0 (fun q Y=>(.inl Y)));have U:=aa.mk (bV.refl w (fun q=>G q));have HW0:=aa.mk hB.size;have J:=aa.mk hB;clear hB;have H:(bG.l0 k l0 z (wrap64 (a2-1)))=some r:=h;clear h;have H':=aa.mk H;clear H;go_enter Tryz.func163,Tryz.ntmps163;go_wp2
 go_loopg [0,7] k (fun kq v0 v7 V=>∃(D:List Int) (y:Int),v7= .int .i64 y∧aa (bG.l0 kq D z y=some r)∧aa (kq≤k)∧aa (Kd.R (Kd.int .u8) 5 V w0.heap.size (fun q=>(G q∨w.heap.size≤q)) v0 D)∧aa (bV w V (fun q=>G q))∧aa (Below w0.heap.size w0 V))
 case atStart=>exact⟨(l0),(wrap64 (a2-1)),rfl,H',⟨rA _⟩,⟨HO0.out⟩,⟨U.out⟩,⟨J.out⟩⟩
 case round=>
  clear H';obtain⟨D,y,rfl,HA,HK1,HO_0,U,J⟩:=hrel;cases gk with
  |zero=>exact absurd HA.out (by simp [bG.l0])
  |succ k1=>
   have H:=HA.out;clear HA;simp only [bG.l0]at H;by_cases c4:y≥0
   ·rw [rp c4]at H
    have c4b0:decide (0≤y)=true:=ru c4;clear c4;obtain⟨X,hji5⟩:∃j_:Int,(wrap64 (8*y))=j_:=⟨_,rfl⟩;replace H:(if 0≤(X)then(if D.length<140737488355328 then(bG.l0 k1 (D++ [(shr .u64 z (X))%256]) z (wrap64 (y-1)))else(none))else(none))=some r:=by(rw [hji5]at H;exact H)
    have hji5w:(IntKind.i64.wrap (8*y))=X:=(dI _).trans hji5;by_cases c6:0≤(X)
    ·rw [rp c6]at H
     have c6b0:=rF c6;clear c6;obtain⟨Z,hji7⟩:∃j_:Int,(shr .u64 z (X))=j_:=⟨_,rfl⟩;replace H:(if D.length<140737488355328 then(bG.l0 k1 (D++ [(Z)%256]) z (wrap64 (y-1)))else(none))=some r:=by(rw [hji7]at H;exact H)
     have hji7_:(z/2^min (X).toNat 64)=Z:=hji7;by_cases c8:D.length<140737488355328
     ·rw [rp c8]at H
      have LMc8:=aa.mk c8;clear c8;obtain⟨y104,hy104⟩:∃y_:List Int,y_=(D++ [(Z)%256]):=⟨_,rfl⟩;replace H:(bG.l0 k1 y104 z (wrap64 (y-1)))=some r:=by(rw [hy104];with_reducible exact H)
      have Ny104:=aa.mk hy104;clear hy104;have H':=aa.mk H;clear H;go_wp2_with (((with_reducible refine aZ (b:= .append) (xs:= #[.tmp 14, .tmp 20]) rfl ?_);at_builtin;refine Kd.R_append (Kd.int .u8) (w0:=w0) w0.heap.size rfl (.tmp 14) (.tmp 20) 66 5 (.int .u8 0) 1 rfl Tryz.underlying66 b8 rfl (by decide) (by omega) u0 D ((Z)%256) [.int .u8 ((Z)%256)] (fun q=>(G q∨w.heap.size≤q)) (fun _=>False) rfl rfl ?aP (fun _ Y=>Y.elim) ?aF ?aO ?aB ?aS ?aL ?_;(case aP=>exact rfl);(case aB=>exact J.out);(case aF=>exact(fun q Y=>(.inr (rK U.out.1 Y))));(case aO=>exact HO_0.out);(case aS=>exact(ay J.out));(case aL=>have:=LMc8.out;omega);intro v105 w9 ho hb hg hat;rw [←Ny104.out]at ho;replace J:=aa.mk (hb);replace U:=aa.mk (bV.of_grown (S:=(fun q=>G q)) hg U.out (fun q e_=>(HO_0.out.1 q e_)));have HO106:=aa.mk (ho);clear HO_0;clear ho hb hg hat))
      go_roundg k1
      case measure=>have:=HK1.out;omega
      case rel=>exact⟨(y104),(wrap64 (y-1)),rfl,H',⟨by have:=HK1.out;omega⟩,⟨HO106.out⟩,⟨U.out⟩,⟨J.out⟩⟩
     ·rw [rq c8]at H
      exact absurd H (by simp)
    ·rw [if_neg c6]at H
     exact absurd H (by simp)
   ·rw [if_neg c4]at H
    have c4b0:decide (0≤y)=false:=rC c4;clear c4;obtain rfl:=rD H;go_wp2;go_ret;exact⟨_,by rfl,by exact HO_0.out,by exact J.out,by exact U.out⟩
def dx.f(k:Nat)(l0:List Int)(h:Int):Option (List Int):=if h≥0 then((cM.f (IntKind.u64.wrap (h))).bind fun t107=>(if l0.length<140737488355328 then((bG.f k (l0++ [(wrap64 (128+t107))%256]) (IntKind.u64.wrap (h)) t107).bind fun t111=>(some t111))else(none)))else((cM.f (IntKind.u64.wrap (wrap64 (-(wrap64 (h+1)))))).bind fun t114=>(if l0.length<140737488355328 then((bG.f k (l0++ [(wrap64 (128-(mx t114 1)))%256]) (Go.bits .xor .u64 18446744073709551615 (IntKind.u64.wrap (wrap64 (-(wrap64 (h+1)))))) (mx t114 1)).bind fun t118=>(some t118))else(none)))
set_option maxHeartbeats 8000000 in
set_option maxRecDepth 100000 in
theorem dx.calls(k:Nat)(D:Nat→Prop)(a6:Value)(l0:List Int)(y:Int)(r:List Int)(w0 w:World)(hB:Below w0.heap.size w0 w)(Y:Kd.R (Kd.int .u8) 5 w w0.heap.size D a6 l0)(h:dx.f k l0 y=some r):
 Calls Tryz.prog 141 #[a6, .int .i64 y] w fun e w'=>∃v0_:Value,e= .returned (v0_)∧Kd.R (Kd.int .u8) 5 w' w0.heap.size (fun q=>(D q∨w.heap.size≤q)) v0_ r∧Below w0.heap.size w0 w'∧bV w w' (fun q=>D q):=by
 have am:=aa.mk (show Kd.R (Kd.int .u8) 5 w w0.heap.size (fun q=>(D q∨w.heap.size≤q)) a6 l0 from Kd.R_mono Y (fun q V=>(.inl V)));have z:=aa.mk (bV.refl w (fun q=>D q));have HW0:=aa.mk hB.size;have G:=aa.mk hB;clear hB;have H:(if y≥0 then((cM.f (IntKind.u64.wrap (y))).bind fun t107=>(if l0.length<140737488355328 then((bG.f k (l0++ [(wrap64 (128+t107))%256]) (IntKind.u64.wrap (y)) t107).bind fun t111=>(some t111))else(none)))else((cM.f (IntKind.u64.wrap (wrap64 (-(wrap64 (y+1)))))).bind fun t114=>(if l0.length<140737488355328 then((bG.f k (l0++ [(wrap64 (128-(mx t114 1)))%256]) (Go.bits .xor .u64 18446744073709551615 (IntKind.u64.wrap (wrap64 (-(wrap64 (y+1)))))) (mx t114 1)).bind fun t118=>(some t118))else(none))))=some r:=h;clear h;by_cases c3:y≥0
 ·rw [rp c3]at H
  have c3b0:decide (0≤y)=true:=ru c3;clear c3;replace H:=rB.mp H;obtain⟨t107,A40,H⟩:=H;replace H:(if l0.length<140737488355328 then((bG.f k (l0++ [(wrap64 (128+t107))%256]) (IntKind.u64.wrap (y)) t107).bind fun t111=>(some t111))else(none))=some r:=H;have A4:=aa.mk A40;clear A40;by_cases c5:l0.length<140737488355328
  ·rw [rp c5]at H
   have LMc5:=aa.mk c5;clear c5;obtain⟨y108,hy108⟩:∃y_:List Int,y_=(l0++ [(wrap64 (128+t107))%256]):=⟨_,rfl⟩;replace H:((bG.f k y108 (IntKind.u64.wrap (y)) t107).bind fun t111=>(some t111))=some r:=by(rw [hy108];with_reducible exact H)
   have Ny108:=aa.mk hy108;clear hy108;replace H:=rB.mp H;obtain⟨t111,A60,H⟩:=H;replace H:(some t111)=some r:=H;have A6:=aa.mk A60;clear A60;obtain rfl:=rD H;go_enter Tryz.func141,Tryz.ntmps141;go_wp2_with (first|(go_at_call 162;(with_reducible refine(cM.calls (IntKind.u64.wrap (y)) t107 _ A4.out).mono ?_);rintro e w' ⟨rfl,⟨nd,rfl⟩⟩)|((with_reducible refine aZ (b:= .append) (xs:= #[.tmp 13, .tmp 17]) rfl ?_);at_builtin;refine Kd.R_append (Kd.int .u8) (w0:=w0) w0.heap.size rfl (.tmp 13) (.tmp 17) 66 5 (.int .u8 0) 1 rfl Tryz.underlying66 b8 rfl (by decide) (by omega) a6 l0 ((wrap64 (128+t107))%256) [.int .u8 ((wrap64 (128+t107))%256)] (fun q=>(D q∨w.heap.size≤q)) (fun _=>False) rfl rfl ?aP (fun _ V=>V.elim) ?aF ?aO ?aB ?aS ?aL ?_;(case aP=>exact rfl);(case aB=>exact(by repeat((with_reducible first|exact G.out|apply aq))));(case aF=>exact(fun q V=>(.inr (rK z.out.1 V))));(case aO=>exact(by(with_reducible repeat(apply Kd.R_drewN));exact am.out));(case aS=>exact(ay (by repeat((with_reducible first|exact G.out|apply aq)))));(case aL=>have:=LMc5.out;omega);intro v109 w7 ho J hg hat;rw [←Ny108.out]at ho;replace G:=aa.mk (J);replace z:=aa.mk (bV.of_grown (S:=(fun q=>D q)) hg (by repeat((with_reducible first|exact z.out|apply bV.drewN))) (fun q X=>(am.out.1 q X)));have ap:=aa.mk (ho);clear am;clear ho J hg hat;obtain⟨Ao8,co8,eo8⟩:=Kd.R_slice ap.out;subst eo8)|(go_at_call 163;(with_reducible refine(bG.calls k (fun q=>some q=(.slice Ao8 y108.length co8:Value).ownBlock) (.slice Ao8 y108.length co8) y108 (IntKind.u64.wrap (y)) t107 t111 w0 _ ?side1 ?side2 A6.out).mono ?_);(case side1=>repeat(with_reducible exact G.out));(case side2=>exact Kd.R_tight rfl ap.out);rintro e w9 ⟨v112,rfl,Y,J,a2⟩;have HO113:=aa.mk (Kd.R_mono (ok':=fun q=>(D q∨w.heap.size≤q)) Y (fun q hk_=>Or.elim hk_ (fun Z=>(ap.out.1 q (Z).symm)) (fun hn_=>(.inr (rK z.out.1 hn_)))));replace z:=aa.mk (bV.then_ (S:=(fun q=>D q)) z.out a2 (fun q Z=>(fun X=>(ap.out.1 q X.symm)) Z));replace G:=aa.mk (J);clear ap;(try clear J);(try clear a2);(try clear Y)));go_ret;exact⟨_,by rfl,by exact HO113.out,by exact G.out,by exact z.out⟩
  ·rw [rq c5]at H
   exact absurd H (by simp)
 ·rw [if_neg c3]at H
  have c3b0:decide (0≤y)=false:=rC c3;clear c3;replace H:=rB.mp H;obtain⟨t114,A100,H⟩:=H;replace H:(if l0.length<140737488355328 then((bG.f k (l0++ [(wrap64 (128-(mx t114 1)))%256]) (Go.bits .xor .u64 18446744073709551615 (IntKind.u64.wrap (wrap64 (-(wrap64 (y+1)))))) (mx t114 1)).bind fun t118=>(some t118))else(none))=some r:=H;have A10:=aa.mk A100;clear A100;obtain⟨U,hji11⟩:∃j_:Int,(mx t114 1)=j_:=⟨_,rfl⟩;replace H:(if l0.length<140737488355328 then((bG.f k (l0++ [(wrap64 (128-(U)))%256]) (Go.bits .xor .u64 18446744073709551615 (IntKind.u64.wrap (wrap64 (-(wrap64 (y+1)))))) (U)).bind fun t118=>(some t118))else(none))=some r:=by(rw [hji11]at H;exact H)
  (try(have hji11l:1≤U:=by(rw [←hji11];unfold mx;(repeat' split)<;>omega)))
  (try(have hji11m:0≤U:=by omega))
  have hji11_:(if t114<1 then 1 else t114)=U:=hji11;by_cases c12:l0.length<140737488355328
  ·rw [rp c12]at H
   have LMc12:=aa.mk c12;clear c12;obtain⟨y115,hy115⟩:∃y_:List Int,y_=(l0++ [(wrap64 (128-(U)))%256]):=⟨_,rfl⟩;replace H:((bG.f k y115 (Go.bits .xor .u64 18446744073709551615 (IntKind.u64.wrap (wrap64 (-(wrap64 (y+1)))))) (U)).bind fun t118=>(some t118))=some r:=by(rw [hy115];with_reducible exact H)
   have Ny115:=aa.mk hy115;clear hy115;replace H:=rB.mp H;obtain⟨t118,A130,H⟩:=H;replace H:(some t118)=some r:=H;have A13:=aa.mk A130;clear A130;obtain rfl:=rD H;go_enter Tryz.func141,Tryz.ntmps141;go_wp2_with (first|((with_reducible refine cF (f:=162) rfl ?_);refine ee (some 28) rfl rfl Tryz.func162 (by kernel_rfl) rfl #[.int .u64 (IntKind.u64.wrap (wrap64 (-(wrap64 (y+1)))))] rfl (by(try simp only [List.map_toArray,List.map_cons,List.map_nil]);rfl) ?_;(with_reducible refine(cM.calls (IntKind.u64.wrap (wrap64 (-(wrap64 (y+1))))) t114 _ A10.out).mono ?_);rintro e w' ⟨rfl,⟨nd,rfl⟩⟩;refine⟨_,rfl,?_⟩)|((with_reducible refine aZ (b:= .append) (xs:= #[.tmp 30, .tmp 34]) rfl ?_);at_builtin;refine Kd.R_append (Kd.int .u8) (w0:=w0) w0.heap.size rfl (.tmp 30) (.tmp 34) 66 5 (.int .u8 0) 1 rfl Tryz.underlying66 b8 rfl (by decide) (by omega) a6 l0 ((wrap64 (128-(U)))%256) [.int .u8 ((wrap64 (128-(U)))%256)] (fun q=>(D q∨w.heap.size≤q)) (fun _=>False) rfl rfl ?aP (fun _ V=>V.elim) ?aF ?aO ?aB ?aS ?aL ?_;(case aP=>exact rfl);(case aB=>exact(by repeat((with_reducible first|exact G.out|apply aq))));(case aF=>exact(fun q V=>(.inr (rK z.out.1 V))));(case aO=>exact(by(with_reducible repeat(apply Kd.R_drewN));exact am.out));(case aS=>exact(ay (by repeat((with_reducible first|exact G.out|apply aq)))));(case aL=>have:=LMc12.out;omega);intro v116 w14 ho J hg hat;rw [←Ny115.out]at ho;replace G:=aa.mk (J);replace z:=aa.mk (bV.of_grown (S:=(fun q=>D q)) hg (by repeat((with_reducible first|exact z.out|apply bV.drewN))) (fun q X=>(am.out.1 q X)));have av:=aa.mk (ho);clear am;clear ho J hg hat;obtain⟨Ao15,co15,eo15⟩:=Kd.R_slice av.out;subst eo15)|((with_reducible refine cF (f:=163) rfl ?_);refine ee (some 39) rfl rfl Tryz.func163 (by kernel_rfl) rfl #[.slice Ao15 y115.length co15, .int .u64 (Go.bits .xor .u64 18446744073709551615 (IntKind.u64.wrap (wrap64 (-(wrap64 (y+1)))))), .int .i64 U] rfl (by(try simp only [List.map_toArray,List.map_cons,List.map_nil]);rfl) ?_;(with_reducible refine(bG.calls k (fun q=>some q=(.slice Ao15 y115.length co15:Value).ownBlock) (.slice Ao15 y115.length co15) y115 (Go.bits .xor .u64 18446744073709551615 (IntKind.u64.wrap (wrap64 (-(wrap64 (y+1)))))) U t118 w0 _ ?side1 ?side2 A13.out).mono ?_);(case side1=>repeat(with_reducible exact G.out));(case side2=>exact Kd.R_tight rfl av.out);rintro e w16 ⟨v119,rfl,Y,J,a2⟩;refine⟨_,rfl,?_⟩;have HO120:=aa.mk (Kd.R_mono (ok':=fun q=>(D q∨w.heap.size≤q)) Y (fun q hk_=>Or.elim hk_ (fun Z=>(av.out.1 q (Z).symm)) (fun hn_=>(.inr (rK z.out.1 hn_)))));replace z:=aa.mk (bV.then_ (S:=(fun q=>D q)) z.out a2 (fun q Z=>(fun X=>(av.out.1 q X.symm)) Z));replace G:=aa.mk (J);clear av;(try clear J);(try clear a2);(try clear Y)));go_ret;exact⟨_,by rfl,by exact HO120.out,by exact G.out,by exact z.out⟩
  ·rw [rq c12]at H
   exact absurd H (by simp)
def cx.f(k:Nat)(l0:List Int)(h:Nat):Option (List Int):=if((h:Int)/9223372036854775808)=0 then((bG.f k l0 (Go.bits .or .u64 (h:Int) 9223372036854775808) 8).bind fun t121=>(some t121))else((bG.f k l0 (Go.bits .xor .u64 18446744073709551615 (h:Int)) 8).bind fun t124=>(some t124))
set_option maxHeartbeats 8000000 in
set_option maxRecDepth 100000 in
theorem cx.calls(k:Nat)(D:Nat→Prop)(u9000_:Value)(l0:List Int)(y:Nat)(r:List Int)(w0 w:World)(hB:Below w0.heap.size w0 w)(J:Kd.R (Kd.int .u8) 5 w w0.heap.size D u9000_ l0)(h:cx.f k l0 y=some r):
 Calls Tryz.prog 142 #[u9000_, .float .f64 y] w fun e w'=>∃v0_:Value,e= .returned (v0_)∧Kd.R (Kd.int .u8) 5 w' w0.heap.size (fun q=>(D q∨w.heap.size≤q)) v0_ r∧Below w0.heap.size w0 w'∧bV w w' (fun q=>D q):=by
 have z:=aa.mk (show Kd.R (Kd.int .u8) 5 w w0.heap.size (fun q=>(D q∨w.heap.size≤q)) u9000_ l0 from Kd.R_mono J (fun q hk=>(.inl hk)));have G:=aa.mk (bV.refl w (fun q=>D q));have HW0:=aa.mk hB.size;have V:=aa.mk hB;clear hB;have H:(if((y:Int)/9223372036854775808)=0 then((bG.f k l0 (Go.bits .or .u64 (y:Int) 9223372036854775808) 8).bind fun t121=>(some t121))else((bG.f k l0 (Go.bits .xor .u64 18446744073709551615 (y:Int)) 8).bind fun t124=>(some t124)))=some r:=h;clear h;by_cases c3:((y:Int)/9223372036854775808)=0
 ·rw [rp c3]at H
  have c3b0:(((y:Int)/9223372036854775808)==0)=true:=rI.mpr c3;clear c3;replace H:=rB.mp H;obtain⟨t121,A40,H⟩:=H;replace H:(some t121)=some r:=H;have A4:=aa.mk A40;clear A40;obtain rfl:=rD H;obtain⟨Ao5,co5,eo5⟩:=Kd.R_slice z.out;subst eo5;go_enter Tryz.func142,Tryz.ntmps142;go_wp2_with ((go_at_call 163;(with_reducible refine(bG.calls k (fun q=>some q=(.slice Ao5 l0.length co5:Value).ownBlock) (.slice Ao5 l0.length co5) l0 (Go.bits .or .u64 (y:Int) 9223372036854775808) 8 t121 w0 _ ?side1 ?side2 A4.out).mono ?_);(case side1=>repeat(with_reducible exact V.out));(case side2=>exact Kd.R_tight rfl z.out);rintro e w6 ⟨v122,rfl,J,X,Y⟩;have HO123:=aa.mk (Kd.R_mono (ok':=fun q=>(D q∨w.heap.size≤q)) J (fun q hk_=>Or.elim hk_ (fun U=>(z.out.1 q (U).symm)) (fun hn_=>(.inr (rK G.out.1 hn_)))));replace G:=aa.mk (bV.then_ (S:=(fun q=>D q)) G.out Y (fun q U=>(fun e_=>(z.out.1 q e_.symm)) U));replace V:=aa.mk (X);clear z;(try clear X);(try clear Y);(try clear J)));go_ret;exact⟨_,by rfl,by exact HO123.out,by exact V.out,by exact G.out⟩
 ·rw [rq c3]at H
  have c3b0:(((y:Int)/9223372036854775808)==0)=false:=ry.mpr c3;replace H:=rB.mp H;obtain⟨t124,A70,H⟩:=H;replace H:(some t124)=some r:=H;have A7:=aa.mk A70;clear A70;obtain rfl:=rD H;obtain⟨Z,am,eo8⟩:=Kd.R_slice z.out;subst eo8;go_enter Tryz.func142,Tryz.ntmps142;go_wp2_with (((with_reducible refine cF (f:=163) rfl ?_);refine ee (some 17) rfl rfl Tryz.func163 (by kernel_rfl) rfl #[.slice Z l0.length am, .int .u64 (Go.bits .xor .u64 18446744073709551615 (y:Int)), .int .i64 8] rfl (by(try simp only [List.map_toArray,List.map_cons,List.map_nil]);rfl) ?_;(with_reducible refine(bG.calls k (fun q=>some q=(.slice Z l0.length am:Value).ownBlock) (.slice Z l0.length am) l0 (Go.bits .xor .u64 18446744073709551615 (y:Int)) 8 t124 w0 _ ?side1 ?side2 A7.out).mono ?_);(case side1=>repeat(with_reducible exact V.out));(case side2=>exact Kd.R_tight rfl z.out);rintro e w9 ⟨v125,rfl,J,X,Y⟩;refine⟨_,rfl,?_⟩;have HO126:=aa.mk (Kd.R_mono (ok':=fun q=>(D q∨w.heap.size≤q)) J (fun q hk_=>Or.elim hk_ (fun U=>(z.out.1 q (U).symm)) (fun hn_=>(.inr (rK G.out.1 hn_)))));replace G:=aa.mk (bV.then_ (S:=(fun q=>D q)) G.out Y (fun q U=>(fun e_=>(z.out.1 q e_.symm)) U));replace V:=aa.mk (X);clear z;(try clear X);(try clear Y);(try clear J)));go_ret;exact⟨_,by rfl,by exact HO126.out,by exact V.out,by exact G.out⟩
def bz.l0:Nat→List Int→Int→Option (List Int)
 |0,_,_=>none
 |k+1,h,q=>if q≥128 then(if h.length<140737488355328 then(bz.l0 k (h++ [Go.bits .or .u8 ((q)%256) 128]) (q/128))else(none))else(if h.length<140737488355328 then(some (h++ [(q)%256]))else(none))
def bz.f(k:Nat)(l0:List Int)(h:Int):Option (List Int):=bz.l0 k l0 h
set_option maxHeartbeats 8000000 in
set_option maxRecDepth 100000 in
theorem bz.calls(k:Nat)(z:Nat→Prop)(u9000_:Value)(l0:List Int)(a1:Int)(r:List Int)(w0 w:World)(hB:Below w0.heap.size w0 w)(ho0:Kd.R (Kd.int .u8) 5 w w0.heap.size z u9000_ l0)(h:bz.f k l0 a1=some r):
 Calls Tryz.prog 111 #[u9000_, .int .u64 a1] w fun e V=>∃v0_:Value,e= .returned (v0_)∧Kd.R (Kd.int .u8) 5 V w0.heap.size (fun q=>(z q∨w.heap.size≤q)) v0_ r∧Below w0.heap.size w0 V∧bV w V (fun q=>z q):=by
 have HO0:=aa.mk (show Kd.R (Kd.int .u8) 5 w w0.heap.size (fun q=>(z q∨w.heap.size≤q)) u9000_ l0 from Kd.R_mono ho0 (fun q J=>(.inl J)));have G:=aa.mk (bV.refl w (fun q=>z q));have HW0:=aa.mk hB.size;have D:=aa.mk hB;clear hB;have H:(bz.l0 k l0 a1)=some r:=h;clear h;have Z:=aa.mk H;clear H;go_enter Tryz.func111,Tryz.ntmps111;go_wp2
 go_loopg [0,1] k (fun kq v0 v1 V=>∃(U:List Int) (y:Int),v1= .int .u64 y∧aa (bz.l0 kq U y=some r)∧aa (kq≤k)∧aa (Kd.R (Kd.int .u8) 5 V w0.heap.size (fun q=>(z q∨w.heap.size≤q)) v0 U)∧aa (bV w V (fun q=>z q))∧aa (Below w0.heap.size w0 V))
 case atStart=>exact⟨(l0),(a1),rfl,Z,⟨rA _⟩,⟨HO0.out⟩,⟨G.out⟩,⟨D.out⟩⟩
 case round=>
  clear Z;obtain⟨U,y,rfl,HA,HK1,X,G,D⟩:=hrel;cases gk with
  |zero=>exact absurd HA.out (by simp [bz.l0])
  |succ k1=>
   have H:=HA.out;clear HA;simp only [bz.l0]at H;by_cases c3:y≥128
   ·rw [rp c3]at H
    have c3b0:decide (128≤y)=true:=ru c3;clear c3;by_cases c4:U.length<140737488355328
    ·rw [rp c4]at H
     have LMc4:=aa.mk c4;clear c4;obtain⟨y127,hy127⟩:∃y_:List Int,y_=(U++ [Go.bits .or .u8 ((y)%256) 128]):=⟨_,rfl⟩;replace H:(bz.l0 k1 y127 (y/128))=some r:=by(rw [hy127];with_reducible exact H)
     have Ny127:=aa.mk hy127;clear hy127;have Z:=aa.mk H;clear H;go_wp2_with (((with_reducible refine aZ (b:= .append) (xs:= #[.tmp 7, .tmp 11]) rfl ?_);at_builtin;refine Kd.R_append (Kd.int .u8) (w0:=w0) w0.heap.size rfl (.tmp 7) (.tmp 11) 66 5 (.int .u8 0) 1 rfl Tryz.underlying66 b8 rfl (by decide) (by omega) u0 U (Go.bits .or .u8 ((y)%256) 128) [.int .u8 (Go.bits .or .u8 ((y)%256) 128)] (fun q=>(z q∨w.heap.size≤q)) (fun _=>False) rfl rfl ?aP (fun _ J=>J.elim) ?aF ?aO ?aB ?aS ?aL ?_;(case aP=>exact rfl);(case aB=>exact D.out);(case aF=>exact(fun q J=>(.inr (rK G.out.1 J))));(case aO=>exact X.out);(case aS=>exact(ay D.out));(case aL=>have:=LMc4.out;omega);intro v128 w5 ho Y hg hat;rw [←Ny127.out]at ho;replace D:=aa.mk (Y);replace G:=aa.mk (bV.of_grown (S:=(fun q=>z q)) hg G.out (fun q e_=>(X.out.1 q e_)));have HO129:=aa.mk (ho);clear X;clear ho Y hg hat))
     go_roundg k1
     case measure=>have:=HK1.out;omega
     case rel=>exact⟨(y127),(y/128),rfl,Z,⟨by have:=HK1.out;omega⟩,⟨HO129.out⟩,⟨G.out⟩,⟨D.out⟩⟩
    ·rw [rq c4]at H
     exact absurd H (by simp)
   ·rw [if_neg c3]at H
    have c3b0:decide (128≤y)=false:=rC c3;clear c3;by_cases c6:U.length<140737488355328
    ·rw [rp c6]at H
     have LMc6:=aa.mk c6;clear c6;obtain⟨y130,hy130⟩:∃y_:List Int,y_=(U++ [(y)%256]):=⟨_,rfl⟩;replace H:(some y130)=some r:=by(rw [hy130];with_reducible exact H)
     have Ny130:=aa.mk hy130;clear hy130;obtain rfl:=rD H;go_wp2_with (((with_reducible refine aZ (b:= .append) (xs:= #[.tmp 15, .tmp 18]) rfl ?_);at_builtin;refine Kd.R_append (Kd.int .u8) (w0:=w0) w0.heap.size rfl (.tmp 15) (.tmp 18) 66 5 (.int .u8 0) 1 rfl Tryz.underlying66 b8 rfl (by decide) (by omega) u0 U ((y)%256) [.int .u8 ((y)%256)] (fun q=>(z q∨w.heap.size≤q)) (fun _=>False) rfl rfl ?aP (fun _ J=>J.elim) ?aF ?aO ?aB ?aS ?aL ?_;(case aP=>exact rfl);(case aB=>exact D.out);(case aF=>exact(fun q J=>(.inr (rK G.out.1 J))));(case aO=>exact X.out);(case aS=>exact(ay D.out));(case aL=>have:=LMc6.out;omega);intro v131 w7 ho Y hg hat;rw [←Ny130.out]at ho;replace D:=aa.mk (Y);replace G:=aa.mk (bV.of_grown (S:=(fun q=>z q)) hg G.out (fun q e_=>(X.out.1 q e_)));have HO132:=aa.mk (ho);clear X;clear ho Y hg hat));go_ret;exact⟨_,by rfl,by exact HO132.out,by exact D.out,by exact G.out⟩
    ·rw [rq c6]at H
     exact absurd H (by simp)
def dR.f(a0:Int):Option (Int):=some (Go.bits .xor .u64 (IntKind.u64.wrap ((IntKind.u64.wrap (a0))*2)) (IntKind.u64.wrap (a0/9223372036854775808)))
set_option maxHeartbeats 8000000 in
set_option maxRecDepth 100000 in
theorem dR.calls(a0:Int)(r:Int)(w:World)(h:dR.f a0=some r):
 Calls Tryz.prog 112 #[.int .i64 a0] w fun e q=>e= .returned (.int .u64 r)∧bM w q:=by
 have H:(some (Go.bits .xor .u64 (IntKind.u64.wrap ((IntKind.u64.wrap (a0))*2)) (IntKind.u64.wrap (a0/9223372036854775808))))=some r:=h;clear h;obtain rfl:=rD H;go_enter Tryz.func112,Tryz.ntmps112;go_wp2;go_ret;exact⟨by rfl,by repeat(exact bM.refl _)⟩
def b7.l0:Nat→List Int→Int→Int→Option (List Int)
 |0,_,_,_=>none
 |k+1,q,r,h=>if h<8 then(if 0≤(wrap64 (8*h))then(if q.length<140737488355328 then(b7.l0 k (q++ [(shr .u64 r (wrap64 (8*h)))%256]) r (wrap64 (h+1)))else(none))else(none))else(some q)
def b7.f(k:Nat)(l0:List Int)(h:Int):Option (List Int):=b7.l0 k l0 h 0
set_option maxHeartbeats 8000000 in
set_option maxRecDepth 100000 in
theorem b7.calls(k:Nat)(G:Nat→Prop)(u9000_:Value)(l0:List Int)(z:Int)(r:List Int)(w0 w:World)(hB:Below w0.heap.size w0 w)(ho0:Kd.R (Kd.int .u8) 5 w w0.heap.size G u9000_ l0)(h:b7.f k l0 z=some r):
 Calls Tryz.prog 113 #[u9000_, .int .u64 z] w fun e V=>∃v0_:Value,e= .returned (v0_)∧Kd.R (Kd.int .u8) 5 V w0.heap.size (fun q=>(G q∨w.heap.size≤q)) v0_ r∧Below w0.heap.size w0 V∧bV w V (fun q=>G q):=by
 have HO0:=aa.mk (show Kd.R (Kd.int .u8) 5 w w0.heap.size (fun q=>(G q∨w.heap.size≤q)) u9000_ l0 from Kd.R_mono ho0 (fun q Y=>(.inl Y)));have U:=aa.mk (bV.refl w (fun q=>G q));have HW0:=aa.mk hB.size;have J:=aa.mk hB;clear hB;have H:(b7.l0 k l0 z 0)=some r:=h;clear h;have H':=aa.mk H;clear H;go_enter Tryz.func113,Tryz.ntmps113;go_wp2
 go_loopg [0,6] k (fun kq v0 v6 V=>∃(D:List Int) (y:Int),v6= .int .i64 y∧aa (b7.l0 kq D z y=some r)∧aa (kq≤k)∧aa (Kd.R (Kd.int .u8) 5 V w0.heap.size (fun q=>(G q∨w.heap.size≤q)) v0 D)∧aa (bV w V (fun q=>G q))∧aa (Below w0.heap.size w0 V))
 case atStart=>exact⟨(l0),(0),rfl,H',⟨rA _⟩,⟨HO0.out⟩,⟨U.out⟩,⟨J.out⟩⟩
 case round=>
  clear H';obtain⟨D,y,rfl,HA,HK1,HO_0,U,J⟩:=hrel;cases gk with
  |zero=>exact absurd HA.out (by simp [b7.l0])
  |succ k1=>
   have H:=HA.out;clear HA;simp only [b7.l0]at H;by_cases c3:y<8
   ·rw [rp c3]at H
    have c3b0:decide (y<8)=true:=ru c3;clear c3;obtain⟨X,hji4⟩:∃j_:Int,(wrap64 (8*y))=j_:=⟨_,rfl⟩;replace H:(if 0≤(X)then(if D.length<140737488355328 then(b7.l0 k1 (D++ [(shr .u64 z (X))%256]) z (wrap64 (y+1)))else(none))else(none))=some r:=by(rw [hji4]at H;exact H)
    have hji4w:(IntKind.i64.wrap (8*y))=X:=(dI _).trans hji4;by_cases c5:0≤(X)
    ·rw [rp c5]at H
     have c5b0:=rF c5;clear c5;obtain⟨Z,hji6⟩:∃j_:Int,(shr .u64 z (X))=j_:=⟨_,rfl⟩;replace H:(if D.length<140737488355328 then(b7.l0 k1 (D++ [(Z)%256]) z (wrap64 (y+1)))else(none))=some r:=by(rw [hji6]at H;exact H)
     have hji6_:(z/2^min (X).toNat 64)=Z:=hji6;by_cases c7:D.length<140737488355328
     ·rw [rp c7]at H
      have LMc7:=aa.mk c7;clear c7;obtain⟨y133,hy133⟩:∃y_:List Int,y_=(D++ [(Z)%256]):=⟨_,rfl⟩;replace H:(b7.l0 k1 y133 z (wrap64 (y+1)))=some r:=by(rw [hy133];with_reducible exact H)
      have Ny133:=aa.mk hy133;clear hy133;have H':=aa.mk H;clear H;go_wp2_with (((with_reducible refine aZ (b:= .append) (xs:= #[.tmp 9, .tmp 15]) rfl ?_);at_builtin;refine Kd.R_append (Kd.int .u8) (w0:=w0) w0.heap.size rfl (.tmp 9) (.tmp 15) 66 5 (.int .u8 0) 1 rfl Tryz.underlying66 b8 rfl (by decide) (by omega) u0 D ((Z)%256) [.int .u8 ((Z)%256)] (fun q=>(G q∨w.heap.size≤q)) (fun _=>False) rfl rfl ?aP (fun _ Y=>Y.elim) ?aF ?aO ?aB ?aS ?aL ?_;(case aP=>exact rfl);(case aB=>exact J.out);(case aF=>exact(fun q Y=>(.inr (rK U.out.1 Y))));(case aO=>exact HO_0.out);(case aS=>exact(ay J.out));(case aL=>have:=LMc7.out;omega);intro v134 w8 ho hb hg hat;rw [←Ny133.out]at ho;replace J:=aa.mk (hb);replace U:=aa.mk (bV.of_grown (S:=(fun q=>G q)) hg U.out (fun q e_=>(HO_0.out.1 q e_)));have HO135:=aa.mk (ho);clear HO_0;clear ho hb hg hat))
      go_roundg k1
      case measure=>have:=HK1.out;omega
      case rel=>exact⟨(y133),(wrap64 (y+1)),rfl,H',⟨by have:=HK1.out;omega⟩,⟨HO135.out⟩,⟨U.out⟩,⟨J.out⟩⟩
     ·rw [rq c7]at H
      exact absurd H (by simp)
    ·rw [if_neg c5]at H
     exact absurd H (by simp)
   ·rw [if_neg c3]at H
    have c3b0:decide (y<8)=false:=rC c3;clear c3;obtain rfl:=rD H;go_wp2;go_ret;exact⟨_,by rfl,by exact HO_0.out,by exact J.out,by exact U.out⟩
end Go.Proofs.YtiphlfpainoeiaaGreatDoor.L
