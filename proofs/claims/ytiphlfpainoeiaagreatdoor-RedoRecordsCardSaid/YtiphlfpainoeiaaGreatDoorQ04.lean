/- Part 4 of the proof of RedoRecords (conditions: none beyond the statement's own guards). -/
import Derived.StillTailTactics
import Derived.Test.YtiphlfpainoeiaaGreatDoorQ03
set_option linter.unusedVariables false
set_option linter.unusedSimpArgs false
namespace Go.Proofs.YtiphlfpainoeiaaGreatDoor
open Go.RowKit Go.Proofs.YtiphlfpainoeiaaGreatDoorW.PrintWords L
def ed(c:Int):Bool:=c==95||(decide (97≤c)&&decide (c≤122))
def jc(c:Int):Bool:=decide (48≤c)&&decide (c≤57)
set_option maxHeartbeats 400000 in
theorem eP(c:Int)(b:Bool)(w:World)(h:ed c=b):Calls Tryz.prog 121 #[.int .u8 c] w fun e D=>e= .returned (.bool b)∧w=D:=by
 subst h;by_cases h1:c=95
 ·subst h1
  go_enter Tryz.func121,Tryz.ntmps121;go_wp2;go_ret;exact⟨rfl,rfl⟩
 have z:(c==95)=false:=by rw [ry];exact h1
 have r:=rn z;by_cases q:97≤c
 ·have y:decide (97≤c)=true:=by simpa using q
  go_enter Tryz.func121,Tryz.ntmps121;go_wp2;go_ret;exact⟨by simp [ed,r.out,q],rfl⟩
 ·have y:decide (97≤c)=false:=by simpa using q
  go_enter Tryz.func121,Tryz.ntmps121;go_wp2;go_ret;exact⟨by simp [ed,r.out,y],rfl⟩
set_option maxHeartbeats 400000 in
theorem dX(c:Int)(b:Bool)(w:World)(h:ed c=b):Calls Tryz.prog 84 #[.int .u8 c] w fun e z=>e= .returned (.bool b)∧w=z:=by
 subst h;by_cases q:97≤c∧c≤122
 ·have r:decide (97≤c)=true:=by simpa using q.1
  have y:decide (c≤122)=true:=by simpa using q.2
  go_enter Tryz.func84,Tryz.ntmps84;go_wp2;go_ret;exact⟨by simp [ed,q],rfl⟩
 by_cases h1:97≤c
 ·have r:decide (97≤c)=true:=by simpa using h1
  have y:decide (c≤122)=false:=by simp;omega
  go_enter Tryz.func84,Tryz.ntmps84;go_wp2;go_ret;exact⟨by simp [ed,y],rfl⟩
 ·have r:decide (97≤c)=false:=by simpa using h1
  go_enter Tryz.func84,Tryz.ntmps84;go_wp2;go_ret;exact⟨by simp [ed,r],rfl⟩
set_option maxHeartbeats 400000 in
theorem nP(c:Int)(b:Bool)(w:World)(h:jc c=b):Calls Tryz.prog 123 #[.int .u8 c] w fun e y=>e= .returned (.bool b)∧w=y:=by
 subst h;by_cases q:48≤c
 ·have r:decide (48≤c)=true:=by simpa using q
  go_enter Tryz.func123,Tryz.ntmps123;go_wp2;go_ret;exact⟨by simp [jc,q],rfl⟩
 ·have r:decide (48≤c)=false:=by simpa using q
  go_enter Tryz.func123,Tryz.ntmps123;go_wp2;go_ret;exact⟨by simp [jc,r],rfl⟩
set_option maxHeartbeats 400000 in
theorem jU(c:Int)(b:Bool)(w:World)(h:jc c=b):Calls Tryz.prog 87 #[.int .u8 c] w fun e y=>e= .returned (.bool b)∧w=y:=by
 subst h;by_cases q:48≤c
 ·have r:decide (48≤c)=true:=by simpa using q
  go_enter Tryz.func87,Tryz.ntmps87;go_wp2;go_ret;exact⟨by simp [jc,q],rfl⟩
 ·have r:decide (48≤c)=false:=by simpa using q
  go_enter Tryz.func87,Tryz.ntmps87;go_wp2;go_ret;exact⟨by simp [jc,r],rfl⟩
def ek:List ByteArray:=["and", "bool", "bytes", "create", "default", "false", "float", "foreign", "in", "index", "int", "is", "key", "not", "null", "or", "primary", "references", "table", "text", "true", "unique", "abort", "as", "asc", "at", "avg", "begin", "between", "by", "commit", "count", "delete", "desc", "drop", "from", "group", "insert", "into", "limit", "max", "min", "of", "order", "release", "rollback", "savepoint", "select", "set", "sum", "to", "update", "values", "where", "with"].map String.toUTF8
theorem o7{α:Type}{enc:α→Value}{h1:∀x,(enc x).oneCell'=true}(w:World)(T:TypeId)(l:List α)(z:l.length≤9223372036854775807)(cs:Array Value)(y:cs=(l.map enc).toArray):
 (Kd.scalar enc h1).C (w.alloc (.cells cs T)) (some ⟨w.heap.size,0,none⟩) l.length l:=by
 subst y;refine⟨rfl,z,fun _=>⟨_,rfl,fun j p hp=>⟨[enc p],rfl,rfl,fun i u q=>?_⟩⟩⟩;have hi:i=0:=by
  rcases Nat.eq_zero_or_pos i with h|h;·exact h
  ·rw [sw (by simp;omega)]at q;cases q
 subst hi;have D:u=enc p:=by simpa using q.symm
 subst D;have r:=rP w (.cells (l.map enc).toArray T);have:(⟨w.heap.size,0,none⟩:Addr).add (j*1+0)=⟨w.heap.size,j,none⟩:=by rw [add_plain];simp
 simp only [Kd.scalar]at*;rw [this];refine(ab r j).trans ?_;simp [hp]
set_option maxHeartbeats 1000000 in
set_option maxRecDepth 100000 in
theorem iG(w:World):Calls Tryz.prog 86 #[] w fun e h=>∃A c,e= .returned (.slice A ek.length c)∧Kd.string.C h A ek.length ek∧Below w.heap.size w h:=by
 go_enter Tryz.func86,Tryz.ntmps86;go_wp2;go_ret;refine⟨_,_,rfl,o7 w 9 ek (by decide+kernel) _ (by kernel_rfl),(rr _ _).alloc (rA _) _⟩
def gm(l:List ByteArray)(s:ByteArray):Bool:=l.any fun x=>x.toList==s.toList
set_option maxHeartbeats 1000000 in
theorem nE(A:Option Addr)(c:Nat)(l:List ByteArray)(s:ByteArray)(w:World)(hr:Kd.string.C w A l.length l):
 Calls Tryz.prog 85 #[.slice A l.length c, .string s] w fun e U=>e= .returned (.bool (gm l s))∧w=U:=by
 have X:=Kd.C_max hr;have G:=rn hr;clear hr;go_enter Tryz.func85,Tryz.ntmps85;go_wp2;go_loop [5] (fun i=>∃k:Nat,k≤l.length∧i= .int .i64 k∧Hid (gm (l.take k) s=false)) (fun i=>l.length-(intOf i).toNat);case atStart=>exact⟨0,rR _,rfl,rn (by simp [gm])⟩
 case round=>
  obtain⟨k,V,rfl,y⟩:=hrel;by_cases q:k<l.length
  ·obtain⟨ad,rfl,z⟩:=Kd.at_string G.out (k:Int) (by omega) (by omega)
   have r:kt ByteArray.empty l (k:Int)=l[k]:=(by simp [kt,List.getD_eq_getElem?_getD,List.getElem?_eq_getElem q]);rw [r]at z;simp only [Int.toNat_natCast]at z;cases D:l[k].toList==s.toList with
   |true=>
    have h:=rn (show gm l s=true from by unfold gm;rw [sb];exact⟨_,rL q,D⟩);clear r;go_wp2;go_ret;exact⟨by rw [h.out];rfl,rfl⟩
   |false=>
    have h:=rn (show gm (l.take (k+1)) s=false from by
     unfold gm;rw [rM q,se];have:=y.out;unfold gm at this;rw [this];simp [D])
    clear r;go_wp2;go_round;case rel=>exact⟨k+1,by omega,by go_num,h⟩
    case measure=>simp [intOf];omega
  ·have J:k=l.length:=by omega
   subst J;have h:=rn (show gm l s=false from by have:=y.out;rwa [sl]at this);go_wp2;go_ret;exact⟨by rw [h.out];rfl,rfl⟩
def gg:List UInt8:=32::ek.flatMap (fun w=>w.data.toList++ [32])
def js(s:ByteArray):Bool:=Lib.contains gg (32::(s.data.toList++ [32]))
set_option maxHeartbeats 1000000 in
set_option maxRecDepth 100000 in
theorem jr(s:ByteArray)(w:World)(h:GT w)(z:s.size≤63):Calls Tryz.prog 122 #[.string s] w fun e r=>e= .returned (.bool (js s))∧r=w:=by
 obtain⟨m,q⟩:=h.maxLen;have y:=rn q;clear q h;go_enter Tryz.func122,Tryz.ntmps122;go_wp2_with fail;refine(Tryz.strings_Contains _ _ m _ (by decide+kernel) y.out).mono ?_;rintro e r ⟨rfl,rfl⟩;go_wp2;go_ret;refine⟨congrArg (fun l:List UInt8=>Ending.returned (Value.bool (Lib.contains l (32::(s.data.toList++ [32]))))) (?_:_=gg),rfl⟩;decide+kernel
def okN(c:Int):Bool:=ed c||jc c
def okS(l:List UInt8):Bool:=l.all fun c=>okN (c.toNat:Int)
def fc(s:ByteArray):Bool:=match s.data.toList with
 |[]=>false
 |c::_=>ed (c.toNat:Int)
theorem fp(s:ByteArray)(h:0<s.size):ed ((s[0]'h).toNat:Int)=fc s:=by
 unfold fc;have h1:s.data.toList[0]? =some (s[0]'h):=Lib.data_getElem? s 0 h;cases q:s.data.toList with
 |nil=>rw [q]at h1;cases h1
 |cons c r=>rw [q]at h1;simp at h1;rw [h1]
def db(s:ByteArray):Bool:=fc s&&decide (s.size≤63)&& !gm ek s&&okS s.data.toList
def ey(s:ByteArray):Bool:=fc s&&decide (s.size≤63)&& !js s&&okS s.data.toList
theorem jJ(s:ByteArray)(k:Nat)(h:k<s.size):okS (s.data.toList.take (k+1))=(okS (s.data.toList.take k)&&okN ((s[k]'h).toNat:Int)):=by
 have h1:s.data.toList[k]? =some (s[k]'h):=Lib.data_getElem? s k h;unfold okS;rw [List.take_add_one,h1,List.all_append];simp
theorem ln(s:ByteArray)(k:Nat)(h:k<s.size)(q:okN ((s[k]'h).toNat:Int)=false):okS s.data.toList=false:=by
 have h1:s.data.toList[k]? =some (s[k]'h):=Lib.data_getElem? s k h;unfold okS;rw [List.all_eq_false];obtain⟨y,r⟩:=si.1 h1;exact⟨_,rL y,by rw [r,q];decide⟩
set_option maxHeartbeats 2000000 in
theorem k0(s:ByteArray)(w:World)(hG:GT w)(hs:s.size≤9223372036854775807):Calls Tryz.prog 93 #[.string s] w fun e r=>e= .returned (.bool (ey s))∧Below w.heap.size w r:=by
 have HG:=rn hG;clear hG;by_cases z:s.toList= []
 ·have hz:=dC z
  have h1:s.toList.isEmpty=true:=by simp [z]
  have q:=rn (show ey s=false from by unfold ey fc;rw [show s.data.toList= []from by rw [←sk];exact z];rfl);go_enter Tryz.func93,Tryz.ntmps93;go_wp2;go_ret;exact⟨by rw [q.out];rfl,rr _ _⟩
 have h1:s.toList.isEmpty=false:=by simpa using z
 have hp:0<s.size:=by
  rcases Nat.eq_zero_or_pos s.size with h|h;·exact absurd (by rw [sk];exact r7 (by rw [←Lib.size_eq];exact h)) z
  ·exact h
 clear z;have hq:decide ((s.size:Int)<1)=false:=by simp;omega
 by_cases h2:63<s.size
 ·have h3:decide (63<s.size)=true:=by simpa using h2
  have q:=rn (show ey s=false from by unfold ey;rw [show decide (s.size≤63)=false from by simp;omega];simp);go_enter Tryz.func93,Tryz.ntmps93;go_wp2;go_ret;exact⟨by rw [q.out];rfl,rr _ _⟩
 have h3:decide (63<s.size)=false:=by simpa using h2
 cases G:fc s with
 |false=>
  have q:=rn (show ey s=false from by unfold ey;rw [G];simp);have J:=rn ((fp s hp).trans G);clear G;go_enter Tryz.func93,Tryz.ntmps93;go_wp2_with (go_at_call 121;refine(eP _ _ _ J.out).mono ?_;rintro e r ⟨rfl,rfl⟩);go_ret;exact⟨by rw [q.out];rfl,rr _ _⟩
 |true=>
  have J:=rn ((fp s hp).trans G);have HH:=rn G;have H3:=rn h3;clear G;cases hw:js s with
  |true=>
   have q:=rn (show ey s=false from by unfold ey;rw [hw];simp);go_enter Tryz.func93,Tryz.ntmps93;go_wp2_with (first|(go_at_call 121;refine(eP _ _ _ J.out).mono ?_;rintro e r ⟨rfl,rfl⟩)|(go_at_call 122;refine(jr _ _ HG.out (by omega)).mono ?_;rintro e r ⟨rfl,rfl⟩));go_ret;exact⟨by rw [q.out];rfl,rr _ _⟩
  |false=>
   have HW:=rn hw;go_enter Tryz.func93,Tryz.ntmps93;go_wp2_with (first|(go_at_call 121;refine(eP _ _ _ J.out).mono ?_;rintro e r ⟨rfl,rfl⟩)|(go_at_call 122;refine(jr _ _ HG.out (by omega)).mono ?_;rintro e r ⟨rfl,rfl⟩));go_loop [23] (fun i=>∃k:Nat,k≤s.size∧i= .int .i64 k∧Hid (okS (s.data.toList.take k)=true)) (fun i=>s.size-(intOf i).toNat);case atStart=>exact⟨0,rR _,rfl,rn (by simp [okS])⟩
   case round=>
    obtain⟨k,hk,rfl,Y⟩:=hrel;by_cases V:k<s.size
    ·have hts:=rn (jJ s k V)
     cases y:ed ((s[k]'V).toNat:Int)with
     |true=>
      have U:=rn y;have Z:=rn (show okS (s.data.toList.take (k+1))=true from by rw [hts.out,Y.out];unfold okN;rw [y];rfl);clear y;go_wp2_with (go_at_call 121;refine(eP _ _ _ U.out).mono ?_;rintro e r ⟨rfl,rfl⟩);go_round;case rel=>exact⟨k+1,by omega,by go_num,Z⟩
      case measure=>simp [intOf];omega
     |false=>
      have U:=rn y;cases D:jc ((s[k]'V).toNat:Int)with
      |true=>
       have X:=rn D;have Z:=rn (show okS (s.data.toList.take (k+1))=true from by rw [hts.out,Y.out];unfold okN;rw [D];simp);clear y D;go_wp2_with (first|(go_at_call 121;refine(eP _ _ _ U.out).mono ?_;rintro e r ⟨rfl,rfl⟩)|(go_at_call 123;refine(nP _ _ _ X.out).mono ?_;rintro e r ⟨rfl,rfl⟩));go_round;case rel=>exact⟨k+1,by omega,by go_num,Z⟩
       case measure=>simp [intOf];omega
      |false=>
       have X:=rn D;have q:=rn (show ey s=false from by unfold ey;rw [ln s k V (by unfold okN;rw [y,D];rfl)];simp);clear y D;go_wp2_with (first|(go_at_call 121;refine(eP _ _ _ U.out).mono ?_;rintro e r ⟨rfl,rfl⟩)|(go_at_call 123;refine(nP _ _ _ X.out).mono ?_;rintro e r ⟨rfl,rfl⟩));go_ret;exact⟨by rw [q.out];rfl,rr _ _⟩
    ·have hkl:k=s.size:=by omega
     subst hkl;have q:=rn (show ey s=true from by
      have h9:=Y.out;rw [rY (by rw [←Lib.size_eq];exact rA _)]at h9;unfold ey;rw [HH.out,HW.out,h9];simp;omega)
     go_wp2;go_ret;exact⟨by rw [q.out];rfl,rr _ _⟩
set_option maxHeartbeats 2000000 in
theorem fQ(s:ByteArray)(w:World)(hG:GT w)(hs:s.size≤9223372036854775807):Calls Tryz.prog 58 #[.string s] w fun e r=>e= .returned (.bool (db s))∧Below w.heap.size w r:=by
 have HG:=rn hG;clear hG;by_cases z:s.toList= []
 ·have hz:=dC z
  have h1:s.toList.isEmpty=true:=by simp [z]
  have q:=rn (show db s=false from by unfold db fc;rw [show s.data.toList= []from by rw [←sk];exact z];rfl);go_enter Tryz.func58,Tryz.ntmps58;go_wp2;go_ret;exact⟨by rw [q.out];rfl,rr _ _⟩
 have h1:s.toList.isEmpty=false:=by simpa using z
 have hp:0<s.size:=by
  rcases Nat.eq_zero_or_pos s.size with h|h;·exact absurd (by rw [sk];exact r7 (by rw [←Lib.size_eq];exact h)) z
  ·exact h
 clear z;have hq:decide ((s.size:Int)<1)=false:=by simp;omega
 by_cases h2:63<s.size
 ·have h3:decide (63<s.size)=true:=by simpa using h2
  have q:=rn (show db s=false from by unfold db;rw [show decide (s.size≤63)=false from by simp;omega];simp);go_enter Tryz.func58,Tryz.ntmps58;go_wp2;go_ret;exact⟨by rw [q.out];rfl,rr _ _⟩
 have h3:decide (63<s.size)=false:=by simpa using h2
 cases G:fc s with
 |false=>
  have q:=rn (show db s=false from by unfold db;rw [G];simp);have X:=rn ((fp s hp).trans G);clear G;go_enter Tryz.func58,Tryz.ntmps58;go_wp2_with (go_at_call 84;refine(dX _ _ _ X.out).mono ?_;rintro e r ⟨rfl,rfl⟩);go_ret;exact⟨by rw [q.out];rfl,rr _ _⟩
 |true=>
  have X:=rn ((fp s hp).trans G);have HH:=rn G;have H3:=rn h3;clear G;cases hw:gm ek s with
  |true=>
   have q:=rn (show db s=false from by unfold db;rw [hw];simp);go_enter Tryz.func58,Tryz.ntmps58;go_wp2_with (first|(go_at_call 84;refine(dX _ _ _ X.out).mono ?_;rintro e r ⟨rfl,rfl⟩)|(go_at_call 86;refine(iG _).mono ?_;rintro e w1 ⟨A1,c1,rfl,J,U⟩;have V:=rn U;clear U;have am:=rn J;clear J)|(go_at_call 85;refine(nE _ _ _ _ _ am.out).mono ?_;rintro e r ⟨rfl,rfl⟩));go_ret;exact⟨by rw [q.out];rfl,V.out⟩
  |false=>
   have HW:=rn hw;go_enter Tryz.func58,Tryz.ntmps58;go_wp2_with (first|(go_at_call 84;refine(dX _ _ _ X.out).mono ?_;rintro e r ⟨rfl,rfl⟩)|(go_at_call 86;refine(iG _).mono ?_;rintro e w1 ⟨A1,c1,rfl,J,U⟩;have V:=rn U;clear U;have am:=rn J;clear J)|(go_at_call 85;refine(nE _ _ _ _ _ am.out).mono ?_;rintro e r ⟨rfl,rfl⟩));go_loop [3] (fun i=>∃k:Nat,k≤s.size∧i= .int .i64 k∧Hid (okS (s.data.toList.take k)=true)) (fun i=>s.size-(intOf i).toNat);case atStart=>exact⟨0,rR _,rfl,rn (by simp [okS])⟩
   case round=>
    obtain⟨k,hk,rfl,HK⟩:=hrel;by_cases Z:k<s.size
    ·have hts:=rn (jJ s k Z)
     cases y:ed ((s[k]'Z).toNat:Int)with
     |true=>
      have Y:=rn y;have HT:=rn (show okS (s.data.toList.take (k+1))=true from by rw [hts.out,HK.out];unfold okN;rw [y];rfl);clear y;go_wp2_with (go_at_call 84;refine(dX _ _ _ Y.out).mono ?_;rintro e r ⟨rfl,rfl⟩);go_round;case rel=>exact⟨k+1,by omega,by go_num,HT⟩
      case measure=>simp [intOf];omega
     |false=>
      have Y:=rn y;cases D:jc ((s[k]'Z).toNat:Int)with
      |true=>
       have HD:=rn D;have HT:=rn (show okS (s.data.toList.take (k+1))=true from by rw [hts.out,HK.out];unfold okN;rw [D];simp);clear y D;go_wp2_with (first|(go_at_call 84;refine(dX _ _ _ Y.out).mono ?_;rintro e r ⟨rfl,rfl⟩)|(go_at_call 87;refine(jU _ _ _ HD.out).mono ?_;rintro e r ⟨rfl,rfl⟩));go_round;case rel=>exact⟨k+1,by omega,by go_num,HT⟩
       case measure=>simp [intOf];omega
      |false=>
       have HD:=rn D;have q:=rn (show db s=false from by unfold db;rw [ln s k Z (by unfold okN;rw [y,D];rfl)];simp);clear y D;go_wp2_with (first|(go_at_call 84;refine(dX _ _ _ Y.out).mono ?_;rintro e r ⟨rfl,rfl⟩)|(go_at_call 87;refine(jU _ _ _ HD.out).mono ?_;rintro e r ⟨rfl,rfl⟩));go_ret;exact⟨by rw [q.out];rfl,V.out⟩
    ·have hkl:k=s.size:=by omega
     subst hkl;have q:=rn (show db s=true from by
      have h9:=HK.out;rw [rY (by rw [←Lib.size_eq];exact rA _)]at h9;unfold db;rw [HH.out,HW.out,h9];simp;omega)
     go_wp2;go_ret;exact⟨by rw [q.out];rfl,V.out⟩
theorem jd(p:List UInt8):Lib.contains [] p=p.isEmpty:=by
 unfold Lib.contains Lib.index;cases p<;>simp
theorem eK(b:UInt8)(l p:List UInt8):Lib.contains (b::l) p=(p.isPrefixOf (b::l)||Lib.contains l p):=by
 unfold Lib.contains;rw [Lib.index];split;·rename_i h;simp [h]
 ·rename_i h
  have h1:=Lib.index_ge l p;split
  ·rename_i q
   have:Lib.index l p= -1:=(by simpa using q);simp [h,this]
  ·rename_i q
   have y:¬Lib.index l p= -1:=(by simpa using q);have r:0≤Lib.index l p:=(by omega);simp [h,r];omega
theorem iF(w r q:List UInt8)(h:∀c∈w,c≠32):Lib.contains (w++r) (32::q)=Lib.contains r (32::q):=by
 induction w with
 |nil=>rfl
 |cons c w z=>
  rw [List.cons_append,eK,z (fun x y=>h x (rX _ y))];have:(32==c)=false:=by rw [ry];exact fun e=>h c rW e.symm
  simp [List.isPrefixOf,this]
theorem jI(s w r:List UInt8)(q:∀c∈s,c≠32)(y:∀c∈w,c≠32):(s++ [32]).isPrefixOf (w++32::r)=(w==s):=by
 induction s generalizing w with
 |nil=>
  cases w with
  |nil=>simp [List.isPrefixOf]
  |cons c w=>
   have:(32==c)=false:=by rw [ry];exact fun e=>y c rW e.symm
   simp [List.isPrefixOf,this]
 |cons d s z=>
  cases w with
  |nil=>
   have:(d==32)=false:=(by rw [ry];exact q d rW);simp [List.isPrefixOf,this]
  |cons c w=>
   have:=z w (fun x h=>q x (rX _ h)) (fun x h=>y x (rX _ h));simp only [List.cons_append,List.isPrefixOf,this];rw [Bool.eq_iff_iff];simp;exact fun _=>eq_comm
theorem ir(h:List (List UInt8))(s:List UInt8)(r:∀c∈s,c≠32)(q:∀w∈h,∀c∈w,c≠32):
 Lib.contains (32::h.flatMap (fun w=>w++ [32])) (32::(s++ [32]))=h.any (fun w=>w==s):=by
 induction h with
 |nil=>
  rw [List.flatMap_nil,eK,jd];cases s<;>simp [List.isPrefixOf]
 |cons w h z=>
  rw [sD,rZ,List.singleton_append,eK,iF _ _ _ (q w rW),z (fun x y=>q x (rX _ y)),List.any_cons];have:=jI s w (h.flatMap fun w=>w++ [32]) r (q w rW);simp only [List.isPrefixOf,this];simp
theorem mI(s:ByteArray)(h:okS s.data.toList=true):js s=gm ek s:=by
 have y:∀c∈s.data.toList,c≠32:=by
  unfold okS at h;rw [sh]at h;rintro c q rfl;exact absurd (h 32 q) (by decide)
 have r:∀w∈ek.map (fun w=>w.data.toList),∀c∈w,c≠32:=by
  have:(ek.map (fun w=>w.data.toList)).all (fun w=>w.all fun c=>c !=32)=true:=by decide+kernel
  intro w r c q;rw [sh]at this;have h1:=this w r;rw [sh]at h1;simpa using h1 c q
 have:=ir (ek.map (fun w=>w.data.toList)) s.data.toList y r;rw [List.flatMap_map]at this;unfold js gg gm;rw [this,List.any_map];simp only [Lib.toList_data,Function.comp_def]
theorem ng(s:ByteArray):ey s=db s:=by
 unfold ey db;cases h:okS s.data.toList with
 |false=>simp
 |true=>rw [mI s h]
theorem dN(s:ByteArray)(w:World)(h:GT w)(q:s.size≤9223372036854775807):Calls Tryz.prog 93 #[.string s] w fun e r=>e= .returned (.bool (db s))∧Below w.heap.size w r:=by
 rw [←ng];exact k0 s w h q
theorem qR(l:List S84)(k:Nat)(h:k<l.length):af l (k:Int)=l[k]:=by simp [af,List.getD_eq_getElem?_getD,List.getElem?_eq_getElem h]
theorem qG{w:World}{A:Option Addr}{n:Nat}{xs:List S84}(h:Kd.C k84 w A n xs)(k:Nat)(r:k<xs.length):∃ad,A=some ad∧w.cell? (ad.add (k*4))=some (.int .i64 xs[k].f0)∧w.cell? ⟨(ad.add (k*4)).block,(ad.add (k*4)).off+1,none⟩=some (.int .i64 xs[k].f1)∧w.cell? ⟨(ad.add (k*4)).block,(ad.add (k*4)).off+2,none⟩=some (.float .f64 xs[k].f2)∧w.cell? ⟨(ad.add (k*4)).block,(ad.add (k*4)).off+3,none⟩=some (.string xs[k].f3):=by
 have q:=dn h (k:Int) (by omega) (by have:=Kd.C_len h;omega);simpa only [Int.toNat_natCast,qR xs k r]using q
theorem qQ(l:List S86)(k:Nat)(h:k<l.length):bx l (k:Int)=l[k]:=by simp [bx,List.getD_eq_getElem?_getD,List.getElem?_eq_getElem h]
theorem kb{w:World}{A:Option Addr}{n:Nat}{xs:List S86}(h:Kd.C k86 w A n xs)(k:Nat)(r:k<xs.length):∃ad,A=some ad∧w.cell? (ad.add (k*7))=some (.string xs[k].f0)∧w.cell? ⟨(ad.add (k*7)).block,(ad.add (k*7)).off+1,none⟩=some (.int .i64 xs[k].f1)∧w.cell? ⟨(ad.add (k*7)).block,(ad.add (k*7)).off+2,none⟩=some (.bool xs[k].f2)∧w.cell? ⟨(ad.add (k*7)).block,(ad.add (k*7)).off+3,none⟩=some (.int .i64 xs[k].f3.f0)∧w.cell? ⟨(ad.add (k*7)).block,(ad.add (k*7)).off+4,none⟩=some (.int .i64 xs[k].f3.f1)∧w.cell? ⟨(ad.add (k*7)).block,(ad.add (k*7)).off+5,none⟩=some (.float .f64 xs[k].f3.f2)∧w.cell? ⟨(ad.add (k*7)).block,(ad.add (k*7)).off+6,none⟩=some (.string xs[k].f3.f3):=by
 have q:=eL h (k:Int) (by omega) (by have:=Kd.C_len h;omega);simpa only [Int.toNat_natCast,qQ xs k r]using q
theorem qP(l:List S88)(k:Nat)(h:k<l.length):cb l (k:Int)=l[k]:=by simp [cb,List.getD_eq_getElem?_getD,List.getElem?_eq_getElem h]
theorem mu{w:World}{A:Option Addr}{n:Nat}{xs:List S88}(h:Kd.C k88 w A n xs)(k:Nat)(r:k<xs.length):∃ad A1 c1,A=some ad∧w.cell? (ad.add (k*3))=some (.string xs[k].f0)∧w.cell? ⟨(ad.add (k*3)).block,(ad.add (k*3)).off+1,none⟩=some (.slice A1 xs[k].f1.length c1)∧w.cell? ⟨(ad.add (k*3)).block,(ad.add (k*3)).off+2,none⟩=some (.bool xs[k].f2)∧xs[k].f1.length≤c1∧(Kd.int .i64).C w A1 xs[k].f1.length xs[k].f1:=by
 have q:=jh h (k:Int) (by omega) (by have:=Kd.C_len h;omega);simpa only [Int.toNat_natCast,qP xs k r]using q
theorem qO(l:List S90)(k:Nat)(h:k<l.length):c_ l (k:Int)=l[k]:=by simp [c_,List.getD_eq_getElem?_getD,List.getElem?_eq_getElem h]
theorem o5{w:World}{A:Option Addr}{n:Nat}{xs:List S90}(h:Kd.C k90 w A n xs)(k:Nat)(z:k<xs.length):∃ad r y,A=some ad∧w.cell? (ad.add (k*2))=some (.slice r xs[k].f0.length y)∧w.cell? ⟨(ad.add (k*2)).block,(ad.add (k*2)).off+1,none⟩=some (.string xs[k].f1)∧xs[k].f0.length≤y∧(Kd.int .i64).C w r xs[k].f0.length xs[k].f0:=by
 have q:=kU h (k:Int) (by omega) (by have:=Kd.C_len h;omega);simpa only [Int.toNat_natCast,qO xs k z]using q
theorem qT(l:List S48)(k:Nat)(h:k<l.length):ax l (k:Int)=l[k]:=by simp [ax,List.getD_eq_getElem?_getD,List.getElem?_eq_getElem h]
theorem mv{w:World}{A:Option Addr}{n:Nat}{xs:List S48}(h:Kd.C k48 w A n xs)(k:Nat)(r:k<xs.length):∃ad A1 c1 A2 c2 A3 c3 A4 c4,A=some ad∧w.cell? (ad.add (k*5))=some (.string xs[k].f0)∧w.cell? ⟨(ad.add (k*5)).block,(ad.add (k*5)).off+1,none⟩=some (.slice A1 xs[k].f1.length c1)∧w.cell? ⟨(ad.add (k*5)).block,(ad.add (k*5)).off+2,none⟩=some (.slice A2 xs[k].f2.length c2)∧w.cell? ⟨(ad.add (k*5)).block,(ad.add (k*5)).off+3,none⟩=some (.slice A3 xs[k].f3.length c3)∧w.cell? ⟨(ad.add (k*5)).block,(ad.add (k*5)).off+4,none⟩=some (.slice A4 xs[k].f4.length c4)∧xs[k].f1.length≤c1∧k86.C w A1 xs[k].f1.length xs[k].f1∧xs[k].f2.length≤c2∧(Kd.int .i64).C w A2 xs[k].f2.length xs[k].f2∧xs[k].f3.length≤c3∧k88.C w A3 xs[k].f3.length xs[k].f3∧xs[k].f4.length≤c4∧k90.C w A4 xs[k].f4.length xs[k].f4:=by
 have q:=eC h (k:Int) (by omega) (by have:=Kd.C_len h;omega);simpa only [Int.toNat_natCast,qT xs k r]using q
theorem qS(l:List S52)(k:Nat)(h:k<l.length):ah l (k:Int)=l[k]:=by simp [ah,List.getD_eq_getElem?_getD,List.getElem?_eq_getElem h]
theorem qH{w:World}{A:Option Addr}{n:Nat}{xs:List S52}(h:Kd.C k52 w A n xs)(k:Nat)(r:k<xs.length):∃ad A3 c3,A=some ad∧w.cell? (ad.add (k*4))=some (.int .i64 xs[k].f0)∧w.cell? ⟨(ad.add (k*4)).block,(ad.add (k*4)).off+1,none⟩=some (.string xs[k].f1)∧w.cell? ⟨(ad.add (k*4)).block,(ad.add (k*4)).off+2,none⟩=some (.bool xs[k].f2)∧w.cell? ⟨(ad.add (k*4)).block,(ad.add (k*4)).off+3,none⟩=some (.slice A3 xs[k].f3.length c3)∧xs[k].f3.length≤c3∧k84.C w A3 xs[k].f3.length xs[k].f3:=by
 have q:=cv h (k:Int) (by omega) (by have:=Kd.C_len h;omega);simpa only [Int.toNat_natCast,qS xs k r]using q
theorem fL(l:List Int)(k:Nat)(h:k<l.length):rd l (k:Int)=l[k]:=by
 simp [rd,List.getD_eq_getElem?_getD,List.getElem?_eq_getElem h]
def rj(l:List Int)(a r:Int):Prop:=decide (0≤r)=l.contains a
set_option maxHeartbeats 1000000 in
theorem mc(A:Option Addr)(c:Nat)(l:List Int)(a:Int)(w:World)(hr:(Kd.int .i64).C w A l.length l):
 Calls Tryz.prog 150 #[.slice A l.length c, .int .i64 a] w fun e U=>∃r:Int,e= .returned (.int .i64 r)∧rj l a r∧w=U:=by
 have X:=Kd.C_max hr;have G:=rn hr;clear hr;go_enter Tryz.func150,Tryz.ntmps150;go_wp2;go_loop [8] (fun i=>∃k:Nat,k≤l.length∧i= .int .i64 k∧Hid ((l.take k).contains a=false)) (fun i=>l.length-(intOf i).toNat);case atStart=>exact⟨0,rR _,rfl,rn (by simp)⟩
 case round=>
  obtain⟨k,V,rfl,y⟩:=hrel;by_cases q:k<l.length
  ·obtain⟨ad,rfl,z⟩:=Kd.at_int G.out (k:Int) (by omega) (by omega)
   rw [fL l k q]at z;simp only [Int.toNat_natCast]at z;cases D:a==l[k]with
   |true=>
    have h:=rn (show l.contains a=true from by rw [List.contains_iff_mem];rw [rI.1 D];exact rL q);go_wp2;go_ret;exact⟨k,rfl,(show decide _=_ from by rw [h.out];simp),rfl⟩
   |false=>
    have h:=rn (show(l.take (k+1)).contains a=false from by
     rw [rM q];have:=y.out;simp only [List.contains_append,this,Bool.false_or];simp only [List.contains_cons,D,List.contains_nil];rfl)
    go_wp2;go_round;case rel=>exact⟨k+1,by omega,by go_num,h⟩
    case measure=>simp [intOf];omega
  ·have J:k=l.length:=by omega
   subst J;have h:=rn (show l.contains a=false from by have:=y.out;rwa [sl]at this);go_wp2;go_ret;exact⟨-1,rfl,(show decide _=_ from by rw [h.out];rfl),rfl⟩
set_option maxHeartbeats 1000000 in
theorem gC(A:Option Addr)(c n:Nat)(l:List Int)(a:Int)(b:Bool)(w:World)(hr:(Kd.int .i64).C w A l.length l)(hn:l.length=n)(y:l.contains a=b):
 Calls Tryz.prog 126 #[.slice A n c, .int .i64 a] w fun e h=>e= .returned (.bool b)∧w=h:=by
 subst y hn;have q:=rn hr;clear hr;go_enter Tryz.func126,Tryz.ntmps126;go_wp2_with (go_at_call 150;refine(mc _ _ _ _ _ q.out).mono ?_;rintro e h ⟨r,rfl,hr,rfl⟩);go_ret;exact⟨by rw [←(show decide (0≤r)=l.contains a from hr)];rfl,rfl⟩
def eg(n:Nat)(l:List Int)(i:Nat):Bool:=decide (0≤l.getD i 0)&&decide (l.getD i 0<n)&& !((l.take i).contains (l.getD i 0))
def cK(n:Nat)(l:List Int):Bool:=decide (1≤l.length)&&decide (l.length≤64)&&(List.range l.length).all (eg n l)
theorem eV(n:Nat)(l:List Int)(k:Nat)(q:k<l.length)(h:eg n l k=false):cK n l=false:=by
 unfold cK;have:(List.range l.length).all (eg n l)=false:=by rw [List.all_eq_false];exact⟨k,by simpa using q,by simp [h]⟩
 rw [this];simp
theorem et(p:Nat→Bool)(k:Nat):(List.range (k+1)).all p=((List.range k).all p&&p k):=by
 rw [List.range_succ,List.all_append];simp
set_option maxHeartbeats 1000000 in
theorem jf(nm:ByteArray)(A1 A2 A3 A4 A:Option Addr)(h c1 J c2 U c3 V c4 c:Nat)(l:List Int)(w:World)(hn1:h≤9223372036854775807)(hr:(Kd.int .i64).C w A l.length l)(hc:l.length≤c):
 Calls Tryz.prog 95 #[.agg #[.string nm, .slice A1 h c1, .slice A2 J c2, .slice A3 U c3, .slice A4 V c4], .slice A l.length c] w fun e X=>e= .returned (.bool (cK h l))∧Below w.heap.size w X:=by
 have hmx:=Kd.C_max hr;by_cases h1:l.length<1
 ·have q:=rn (show cK h l=false from by unfold cK;rw [show decide (1≤l.length)=false from rC (by omega)];rfl)
  have h2:decide ((l.length:Int)<1)=true:=by simp;omega
  clear hr;go_enter Tryz.func95,Tryz.ntmps95;go_wp2;go_ret;exact⟨by rw [q.out];rfl,(rr _ _).alloc (rA _) _⟩
 by_cases h3:64<l.length
 ·have q:=rn (show cK h l=false from by unfold cK;rw [show decide (l.length≤64)=false from rC (by omega)];simp)
  have h2:decide ((l.length:Int)<1)=false:=by simp;omega
  have h4:decide (64<l.length)=true:=by simp;omega
  clear hr;go_enter Tryz.func95,Tryz.ntmps95;go_wp2;go_ret;exact⟨by rw [q.out];rfl,(rr _ _).alloc (rA _) _⟩
 have h2:decide ((l.length:Int)<1)=false:=by simp;omega
 have h4:decide (64<l.length)=false:=by simp;omega
 have HR:=rn hr;clear hr;go_enter Tryz.func95,Tryz.ntmps95;go_wp2;obtain⟨W,hW⟩:∃W:World,W=w.alloc (.cells #[.string nm, .slice A1 h c1, .slice A2 J c2, .slice A3 U c3, .slice A4 V c4] 48):=⟨_,rfl⟩;have am:=rn (Kd.C_alloc HR.out (.cells #[.string nm, .slice A1 h c1, .slice A2 J c2, .slice A3 U c3, .slice A4 V c4] 48));go_loop [17] (fun i=>∃k:Nat,k≤l.length∧i= .int .i64 k∧Hid ((List.range k).all (eg h l)=true)) (fun i=>l.length-(intOf i).toNat);case atStart=>exact⟨0,rR _,rfl,rn rfl⟩
 case round=>
  obtain⟨k,hk,rfl,Y⟩:=hrel;by_cases z:k<l.length
  ·have y:l.getD k 0=l[k]:=by simp [List.getD_eq_getElem?_getD,List.getElem?_eq_getElem z]
   obtain⟨ad,rfl,hcl⟩:=Kd.at_int am.out (k:Int) (by omega) (by omega);rw [fL l k z]at hcl;simp only [Int.toNat_natCast]at hcl;by_cases hneg:l[k]<0
   ·have hd:decide (l[k]<0)=true:=by simpa using hneg
    have q:=rn (eV h l k z (by unfold eg;rw [y,show decide (0≤l[k])=false from by simp;omega];rfl));go_wp2;go_ret;exact⟨by rw [q.out];rfl,(rr _ _).alloc (rA _) _⟩
   have hd:decide (l[k]<0)=false:=(by simpa using hneg);by_cases hge:(h:Int)≤l[k]
   ·have hd2:decide ((h:Int)≤l[k])=true:=by simpa using hge
    have q:=rn (eV h l k z (by unfold eg;rw [y,show decide (l[k]<(h:Int))=false from by simp;omega];simp));go_wp2;go_ret;exact⟨by rw [q.out];rfl,(rr _ _).alloc (rA _) _⟩
   have hd2:decide ((h:Int)≤l[k])=false:=(by simpa using hge);have HT:=rn (Kd.C_take am.out (show k≤l.length by omega));have Z:=rn (show(l.take k).length=k from by simp;omega);cases r:(l.take k).contains l[k]with
   |true=>
    have q:=rn (eV h l k z (by unfold eg;rw [y,r];simp));have D:=rn r;clear r y;go_wp2_with (go_at_call 126;refine(gC _ _ _ (l.take k) _ _ _ HT.out Z.out D.out).mono ?_;rintro e X ⟨rfl,rfl⟩);go_ret;exact⟨by rw [q.out];rfl,(rr _ _).alloc (rA _) _⟩
   |false=>
    have G:=rn (show(List.range (k+1)).all (eg h l)=true from by
     rw [et,Y.out];unfold eg;rw [y,r,show decide (0≤l[k])=true from ru (by omega),show decide (l[k]<(h:Int))=true from ru (by omega)];rfl)
    have D:=rn r;clear r y;go_wp2_with (go_at_call 126;refine(gC _ _ _ (l.take k) _ _ _ HT.out Z.out D.out).mono ?_;rintro e X ⟨rfl,rfl⟩);go_round;case rel=>exact⟨k+1,by omega,by go_num,G⟩
    case measure=>simp [intOf];omega
  ·have hkl:k=l.length:=by omega
   subst hkl;have G:=rn (show cK h l=true from by
    unfold cK;rw [Y.out,show decide (1≤l.length)=true from ru (by omega),show decide (l.length≤64)=true from ru (by omega)];rfl)
   go_wp2;go_ret;exact⟨by rw [G.out];rfl,(rr _ _).alloc (rA _) _⟩
set_option maxHeartbeats 2000000 in
theorem oy(nm:ByteArray)(A1 A2 A3 A4 A:Option Addr)(h c1 X c2 Y c3 Z c4 c:Nat)(l:List Int)(w:World)(hn1:h≤9223372036854775807)(hr:(Kd.int .i64).C w A l.length l)(hc:l.length≤c):
 Calls Tryz.prog 60 #[.agg #[.string nm, .slice A1 h c1, .slice A2 X c2, .slice A3 Y c3, .slice A4 Z c4], .slice A l.length c] w fun e w'=>e= .returned (.bool (cK h l))∧Below w.heap.size w w':=by
 have hmx:=Kd.C_max hr;by_cases h1:l.length<1
 ·have z:=rn (show cK h l=false from by unfold cK;rw [show decide (1≤l.length)=false from rC (by omega)];rfl)
  have h2:decide ((l.length:Int)<1)=true:=by simp;omega
  clear hr;go_enter Tryz.func60,Tryz.ntmps60;go_wp2;go_ret;exact⟨by rw [z.out];rfl,(rr _ _).alloc (rA _) _⟩
 by_cases h3:64<l.length
 ·have z:=rn (show cK h l=false from by unfold cK;rw [show decide (l.length≤64)=false from rC (by omega)];simp)
  have h2:decide ((l.length:Int)<1)=false:=by simp;omega
  have h4:decide (64<l.length)=true:=by simp;omega
  clear hr;go_enter Tryz.func60,Tryz.ntmps60;go_wp2;go_ret;exact⟨by rw [z.out];rfl,(rr _ _).alloc (rA _) _⟩
 have h2:decide ((l.length:Int)<1)=false:=by simp;omega
 have h4:decide (64<l.length)=false:=by simp;omega
 have V:=rn (Kd.C_alloc hr (.cells #[.string nm, .slice A1 h c1, .slice A2 X c2, .slice A3 Y c3, .slice A4 Z c4] 48));have q:=rn (ai (rr w.heap.size w) (.cells #[.string nm, .slice A1 h c1, .slice A2 X c2, .slice A3 Y c3, .slice A4 Z c4] 48));have r:=rn (show(w.alloc (.cells #[.string nm, .slice A1 h c1, .slice A2 X c2, .slice A3 Y c3, .slice A4 Z c4] 48)).cell? ⟨w.heap.size,1,none⟩=some (.slice A1 h c1)from(ab (rP w _) 1).trans rfl);clear hr;go_enter Tryz.func60,Tryz.ntmps60;go_wp2;go_loopw [5] (fun i wr=>∃k:Nat,k≤l.length∧i= .int .i64 k∧Hid ((List.range k).all (eg h l)=true)∧Hid ((Kd.int .i64).C wr A l.length l)∧Hid (wr.cell? ⟨w.heap.size,1,none⟩=some (.slice A1 h c1))∧Hid (Below w.heap.size w wr)) (fun i _=>l.length-(intOf i).toNat);case atStart=>exact⟨0,rR _,rfl,rn rfl,V,r,q⟩
 case round=>
  clear V r q;obtain⟨k,hk,rfl,HK,y,r,q⟩:=hrel;by_cases G:k<l.length
  ·have J:l.getD k 0=l[k]:=by simp [List.getD_eq_getElem?_getD,List.getElem?_eq_getElem G]
   obtain⟨ad,rfl,ap⟩:=Kd.at_int y.out (k:Int) (by omega) (by omega);rw [fL l k G]at ap;simp only [Int.toNat_natCast]at ap;have hcx:=r.out;have hi0:(0:Int)≤(k:Int):=(by omega);have hi1:(k:Int)<(l.length:Int):=(by omega);by_cases hneg:l[k]<0
   ·have hd:decide (l[k]<0)=true:=by simpa using hneg
    have z:=rn (eV h l k G (by unfold eg;rw [J,show decide (0≤l[k])=false from rC (by omega)];rfl));clear J;go_wp2;go_quiet (fail);go_wp2;go_ret;exact⟨by rw [z.out];rfl,aq q.out _⟩
   have hd:decide (l[k]<0)=false:=(by simpa using hneg);by_cases hge:(h:Int)≤l[k]
   ·have hd2:decide ((h:Int)≤l[k])=true:=by simpa using hge
    have z:=rn (eV h l k G (by unfold eg;rw [J,show decide (l[k]<(h:Int))=false from rC (by omega)];simp));clear J;go_wp2;go_quiet (fail);go_wp2;go_ret;exact⟨by rw [z.out];rfl,aq q.out _⟩
   have hd2:decide ((h:Int)≤l[k])=false:=(by simpa using hge);have HV:=rn J;clear J;go_wp2;go_quiet (fail);go_wp2;replace y:=rn (Kd.C_drewN y.out nq);replace r:=rn (show(wr.drewN nq).cell? ⟨w.heap.size,1,none⟩=some (.slice A1 h c1)from r.out);replace q:=rn (aq q.out nq);clear ap hcx;obtain⟨wo,hwo⟩:∃wo:World,wo=wr.drewN nq:=⟨_,rfl⟩;rw [←hwo]at y r q⊢;clear hwo;go_loopw [6] (fun i wr=>∃j:Nat,j≤k∧i= .int .i64 j∧Hid ((l.take j).contains l[k]=false)∧Hid ((Kd.int .i64).C wr (some ad) l.length l)∧Hid (wr.cell? ⟨w.heap.size,1,none⟩=some (.slice A1 h c1))∧Hid (Below w.heap.size w wr)) (fun i _=>k-(intOf i).toNat);case atStart=>exact⟨0,rR _,rfl,rn (by simp),y,r,q⟩
   case round=>
    clear y r q;obtain⟨j,hj,rfl,HJ,y,r,q⟩:=hrel;by_cases hjl:j<k
    ·obtain⟨am,D,hcj⟩:=Kd.at_int y.out (j:Int) (by omega) (by omega)
     obtain rfl:ad=am:=(by injection D);clear D;rw [fL l j (by omega)]at hcj;simp only [Int.toNat_natCast]at hcj;obtain⟨am,D,hck⟩:=Kd.at_int y.out (k:Int) (by omega) (by omega);obtain rfl:ad=am:=(by injection D);clear D;rw [fL l k G]at hck;simp only [Int.toNat_natCast]at hck;have hj0:(0:Int)≤(j:Int):=(by omega);have hj1:(j:Int)<(l.length:Int):=(by omega);cases D:l[j]==l[k]with
     |true=>
      have z:=rn (eV h l k G (by
       unfold eg;rw [HV.out];have:(l.take k).contains l[k]=true:=by
        rw [List.contains_iff_mem,←rI.1 D,List.mem_take_iff_getElem];exact⟨j,by omega,rfl⟩
       rw [this];simp))
      go_wp2;go_quiet (fail);go_wp2;go_ret;exact⟨by rw [z.out];rfl,aq q.out _⟩
     |false=>
      have U:=rn (show(l.take (j+1)).contains l[k]=false from by
       rw [rM (by omega)];have h9:=HJ.out;have h8:(l[k]==l[j])=false:=by rw [ry]at D⊢;exact fun e=>D e.symm
       simp only [List.contains_append,h9,Bool.false_or];simp only [List.contains_cons,h8,List.contains_nil];rfl)
      go_wp2;go_quiet (fail);go_wp2;have V:=rn (Kd.C_drewN y.out nq);have HX2:=rn (show(wr.drewN nq).cell? ⟨w.heap.size,1,none⟩=some (.slice A1 h c1)from r.out);have HB2:=rn (aq q.out nq);go_roundw;case rel=>exact⟨j+1,by omega,by go_num,U,V,HX2,HB2⟩
      case measure=>simp [intOf];omega
    ·have hjk:j=k:=by omega
     subst hjk;have U:=rn (show(List.range (j+1)).all (eg h l)=true from by
      rw [et,HK.out];unfold eg;rw [HV.out,HJ.out,show decide (0≤l[j])=true from ru (by omega),show decide (l[j]<(h:Int))=true from ru (by omega)];rfl)
     go_wp2;go_roundw;case rel=>exact⟨j+1,by omega,by go_num,U,y,r,q⟩
     case measure=>simp [intOf];omega
  ·have hkl:k=l.length:=by omega
   subst hkl;have U:=rn (show cK h l=true from by
    unfold cK;rw [HK.out,show decide (1≤l.length)=true from ru (by omega),show decide (l.length≤64)=true from ru (by omega)];rfl)
   go_wp2;go_ret;exact⟨by rw [U.out];rfl,q.out⟩
theorem an{w wr W:World}(h1:Below w.heap.size w wr)(h:Below wr.heap.size wr W):Below w.heap.size w W:=iw h1 h1.size h
set_option maxHeartbeats 1000000 in
theorem lf(h nm:ByteArray)(q:Int)(r:Bool)(y z:Int)(D:Nat)(G:ByteArray)(p:Addr)(b:Bool)(w:World)(hp:w.cell? p=some (.string nm))(U:(h.toList==nm.toList)=b):
 Calls Tryz.prog 125 #[.agg #[.string h, .int .i64 q, .bool r, .int .i64 y, .int .i64 z, .float .f64 D, .string G], .pointer (some p)] w fun e J=>e= .returned (.bool b)∧Below w.heap.size w J:=by
 have V:=aj (ai (rr w.heap.size w) (.cells #[.string h, .int .i64 q, .bool r, .int .i64 y, .int .i64 z, .float .f64 D, .string G] 86)) hp;clear hp;have X:=Tryz.underlying86;go_enter Tryz.func125,Tryz.ntmps125;go_wp2;go_ret;exact⟨rfl,(rr _ _).alloc (rA _) _⟩
def ri(l:List S86)(nm:ByteArray)(r:Int):Prop:=decide (0≤r)=l.any (fun x=>x.f0.toList==nm.toList)
set_option maxHeartbeats 1000000 in
theorem pM(A:Option Addr)(c n:Nat)(l:List S86)(nm:ByteArray)(p:Addr)(w:World)(hr:k86.C w A l.length l)(hn:l.length=n)(hp:w.cell? p=some (.string nm)):
 Calls Tryz.prog 149 #[.slice A n c, .func (.func 125) #[] #[.pointer (some p)]] w fun e U=>∃r:Int,e= .returned (.int .i64 r)∧ri l nm r∧Below w.heap.size w U:=by
 subst hn;have hmx:=Kd.C_max hr;have Z:=rn hr;have X:=rn hp;clear hr hp;have hu:=Tryz.underlying86;go_enter Tryz.func149,Tryz.ntmps149;go_wp2;go_loopw [8] (fun i wr=>∃k:Nat,k≤l.length∧i= .int .i64 k∧Hid ((l.take k).any (fun x=>x.f0.toList==nm.toList)=false)∧Hid (Below w.heap.size w wr)) (fun i _=>l.length-(intOf i).toNat);case atStart=>exact⟨0,rR _,rfl,rn (by simp),rn (rr _ _)⟩
 case round=>
  obtain⟨k,hk,rfl,V,h⟩:=hrel;by_cases J:k<l.length
  ·obtain⟨ad,rfl,c0,c1,c2,c3,c4,c5,c6⟩:=kb (Kd.C_below Z.out h.out) k J
   cases q:(l[k].f0.toList==nm.toList)with
   |true=>
    have G:=rn q;have y:=rn (show l.any (fun x=>x.f0.toList==nm.toList)=true from by rw [sb];exact⟨_,rL J,q⟩);clear q;go_wp2_with (go_at_call 125;refine(lf _ nm _ _ _ _ _ _ p true _ (aj h.out X.out) G.out).mono ?_;rintro e U ⟨rfl,z⟩;have D:=rn z;clear z);go_ret;exact⟨k,rfl,(show decide _=_ from by rw [y.out];simp),an h.out D.out⟩
   |false=>
    have G:=rn q;have y:=rn (show(l.take (k+1)).any (fun x=>x.f0.toList==nm.toList)=false from by rw [rM J,se,V.out];simp [q]);clear q;go_wp2_with (go_at_call 125;refine(lf _ nm _ _ _ _ _ _ p false _ (aj h.out X.out) G.out).mono ?_;rintro e U ⟨rfl,z⟩;have D:=rn z;clear z);have Y:=rn (an h.out D.out);go_roundw;case rel=>exact⟨k+1,by omega,by go_num,y,Y⟩
    case measure=>simp [intOf];omega
  ·have am:k=l.length:=by omega
   subst am;have y:=rn (show l.any (fun x=>x.f0.toList==nm.toList)=false from by have:=V.out;rwa [sl]at this);go_wp2;go_ret;exact⟨-1,rfl,(show decide _=_ from by rw [y.out];rfl),h.out⟩
set_option maxHeartbeats 1000000 in
theorem eI(A:Option Addr)(c n:Nat)(l:List S86)(nm:ByteArray)(p:Addr)(b:Bool)(w:World)(hr:k86.C w A l.length l)(hn:l.length=n)(hp:w.cell? p=some (.string nm))(h:l.any (fun x=>x.f0.toList==nm.toList)=b):
 Calls Tryz.prog 124 #[.slice A n c, .func (.func 125) #[] #[.pointer (some p)]] w fun e q=>e= .returned (.bool b)∧Below w.heap.size w q:=by
 subst h hn;have D:=rn hr;have z:=rn hp;clear hr hp;go_enter Tryz.func124,Tryz.ntmps124;go_wp2_with (go_at_call 149;refine(pM _ _ _ _ nm _ _ D.out rfl z.out).mono ?_;rintro e q ⟨r,rfl,hr,h⟩;have y:=rn h;clear h);go_ret;exact⟨by rw [←(show decide (0≤r)=_ from hr)];rfl,y.out⟩
theorem bW(k n:Int)(b:Nat)(s:ByteArray)(r:Int)(w:World)(q:GT w)(y:s.size≤9223372036854775807)(h:aX ⟨k,n,b,s⟩=r):
 Calls Tryz.prog 81 #[.agg #[.int .i64 k, .int .i64 n, .float .f64 b, .string s]] w fun e z=>e= .returned (.int .i64 r)∧Below w.heap.size w z:=by
 subst h;exact bR k n b s w q y
def cn(f:Nat→Int)(n:Nat):Int:=match(List.range n).find? (fun i=>f i !=0)with
 |some i=>f i
 |none=>0
def e7(f:Nat→Int)(n:Nat):Bool:=(List.range n).all fun i=>f i==0
theorem dG(f:Nat→Int):e7 f 0=true:=rfl
theorem cO(f:Nat→Int)(k:Nat)(h:e7 f k=true)(q:f k=0):e7 f (k+1)=true:=by
 unfold e7 at*;rw [et,h,q];rfl
theorem dE(f:Nat→Int)(n:Nat)(h:e7 f n=true):cn f n=0:=by
 unfold cn;rw [show(List.range n).find? (fun i=>f i !=0)=none from by
  rw [List.find?_eq_none];intro x q;unfold e7 at h;rw [sh]at h;have:=h x q;simpa using this]
theorem bO(f:Nat→Int)(n k:Nat)(y:k<n)(h:e7 f k=true)(q:f k≠0):cn f n=f k:=by
 unfold cn;rw [show(List.range n).find? (fun i=>f i !=0)=some k from by
  rw [List.find?_eq_some_iff_getElem];refine⟨by simpa using q,k,by simpa using y,by simp,?_⟩;intro j r;unfold e7 at h;rw [List.all_eq_true]at h;have:=h j (by simpa using r);simpa using this]
def cd(cs:List S86)(i:Nat):Int:=
 if db (cs.getD i z86).f0=false then 30
 else if(cs.take i).any (fun x=>x.f0.toList==(cs.getD i z86).f0.toList)=true then 31
 else if(cs.getD i z86).f1<1∨5<(cs.getD i z86).f1∨aX (cs.getD i z86).f3≠0∨((cs.getD i z86).f3.f0≠0∧(cs.getD i z86).f3.f0≠(cs.getD i z86).f1)then 32 else 0
def cC(cs:List S86):Int:=cn (cd cs) cs.length
set_option maxHeartbeats 2000000 in
set_option maxRecDepth 100000 in
theorem gL(nm:ByteArray)(A1 A2 A3 A4:Option Addr)(c1 n2 c2 n3 c3 n4 c4:Nat)(cs:List S86)(w:World)(hG:GT w)(hr:k86.C w A1 cs.length cs)(hc:cs.length≤c1)
 (hz:∀x∈cs,x.f0.size≤9223372036854775807∧x.f3.f3.size≤9223372036854775807):
 Calls Tryz.prog 94 #[.agg #[.string nm, .slice A1 cs.length c1, .slice A2 n2 c2, .slice A3 n3 c3, .slice A4 n4 c4]] w fun e w'=>e= .returned (.int .i64 (cC cs))∧Below w.heap.size w w':=by
 have hmx:=Kd.C_max hr;have HR:=rn hr;have HG:=rn hG;have HZ:=rn hz;have HX:=rn (show(w.alloc (.cells #[.string nm, .slice A1 cs.length c1, .slice A2 n2 c2, .slice A3 n3 c3, .slice A4 n4 c4] 48)).cell? ⟨w.heap.size,1,none⟩=some (.slice A1 cs.length c1)from(ab (rP w _) 1).trans rfl);have HB0:=rn (ai (rr w.heap.size w) (.cells #[.string nm, .slice A1 cs.length c1, .slice A2 n2 c2, .slice A3 n3 c3, .slice A4 n4 c4] 48));clear hr hG hz;have hu:=Tryz.underlying86;have hu84:=Tryz.underlying84;go_enter Tryz.func94,Tryz.ntmps94;go_wp2;obtain⟨W0,hW0⟩:∃W0:World,W0=w.alloc (.cells #[.string nm, .slice A1 cs.length c1, .slice A2 n2 c2, .slice A3 n3 c3, .slice A4 n4 c4] 48):=⟨_,rfl⟩;rw [←hW0]at HX HB0⊢;have HS:=rn (show w.heap.size<W0.heap.size from by rw [hW0];simp);clear hW0;go_loopw [9] (fun i wr=>∃k:Nat,k≤cs.length∧i= .int .i64 k∧Hid (e7 (cd cs) k=true)∧Hid (Below W0.heap.size W0 wr)) (fun i _=>cs.length-(intOf i).toNat);case atStart=>exact⟨0,rR _,rfl,rn (dG _),rn (rr _ _)⟩
 case round=>
  obtain⟨k,hk,rfl,HK,HB⟩:=hrel;by_cases hlt:k<cs.length
  ·have J:cs.getD k z86=cs[k]:=by simp [List.getD_eq_getElem?_getD,List.getElem?_eq_getElem hlt]
   have HB1:=rn (an HB0.out HB.out);obtain⟨ad,rfl,c0,c1',c2',c3',c4',c5,c6⟩:=kb (Kd.C_below HR.out HB1.out) k hlt;have hcx:=aj HB.out HX.out;have V:=HZ.out _ (rL hlt);have hsz:w.heap.size<wr.heap.size:=(by have:=HS.out;have:=HB.out.size;omega);have HT:=rn (Kd.C_take (Kd.C_alloc (Kd.C_below HR.out HB1.out) (.cells #[.string cs[k].f0, .int .i64 cs[k].f1, .bool cs[k].f2, .int .i64 cs[k].f3.f0, .int .i64 cs[k].f3.f1, .float .f64 cs[k].f3.f2, .string cs[k].f3.f3] 86)) (show k≤cs.length by omega));have HL:=rn (show(cs.take k).length=k from by simp;omega);have U:=rn (HG.out.now HB1.out);obtain⟨bt,X⟩:∃b,(cs.take k).any (fun x=>x.f0.toList==cs[k].f0.toList)=b:=⟨_,rfl⟩;have HTW:=rn X;obtain⟨r,hvr⟩:∃r,aX cs[k].f3=r:=⟨_,rfl⟩;have HV:=rn (show aX ⟨cs[k].f3.f0,cs[k].f3.f1,cs[k].f3.f2,cs[k].f3.f3⟩=r from hvr);have HXX:=rn J;cases hnb:db cs[k].f0 with
   |false=>
    have D:cd cs k=30:=(by unfold cd;rw [J,hnb];rfl);clear X hvr;have HN:=rn (show cC cs=30 from(bO _ _ k hlt HK.out (by rw [D];decide)).trans D);clear D J;go_wp2_with (first|(go_at_call 124;refine(eI _ _ _ (cs.take k) cs[k].f0 _ _ _ HT.out HL.out (by exact(ab (rP _ _) 0).trans rfl) HTW.out).mono ?_;rintro e w1 ⟨rfl,h⟩;have z:=rn h;have Y:wr.heap.size<w1.heap.size:=(by have:=h.size;simp at this;omega);obtain⟨hcc1,hff1⟩:=bj h;clear h)|(go_at_call 93;refine(dN _ _ ((U.out.now (ai (rr _ _) _)).now z.out) V.1).mono ?_;rintro e w2 ⟨rfl,q⟩;have G:=rn q;have Z:wr.heap.size<w2.heap.size:=rv Y q.size;obtain⟨hcc2,hff2⟩:=bj q;clear q)|(go_at_call 81;refine(bW _ _ _ _ _ _ (((U.out.now (ai (rr _ _) _)).now z.out).now G.out) V.2 HV.out).mono ?_;rintro e w3 ⟨rfl,y⟩;have HB4:=rn y;have hz3:wr.heap.size<w3.heap.size:=rv Z y.size;obtain⟨hcc3,hff3⟩:=bj y;clear y));go_ret;exact⟨by rw [HN.out];rfl,an HB1.out (an (ai (rr _ _) _) (an z.out G.out))⟩
   |true=>
   cases bt with
   |true=>
    have D:cd cs k=31:=(by unfold cd;rw [J,hnb,X];rfl);clear X hvr;have HN:=rn (show cC cs=31 from(bO _ _ k hlt HK.out (by rw [D];decide)).trans D);clear D J;go_wp2_with (first|(go_at_call 124;refine(eI _ _ _ (cs.take k) cs[k].f0 _ _ _ HT.out HL.out (by exact(ab (rP _ _) 0).trans rfl) HTW.out).mono ?_;rintro e w1 ⟨rfl,h⟩;have z:=rn h;have Y:wr.heap.size<w1.heap.size:=(by have:=h.size;simp at this;omega);obtain⟨hcc1,hff1⟩:=bj h;clear h)|(go_at_call 93;refine(dN _ _ ((U.out.now (ai (rr _ _) _)).now z.out) V.1).mono ?_;rintro e w2 ⟨rfl,q⟩;have G:=rn q;have Z:wr.heap.size<w2.heap.size:=rv Y q.size;obtain⟨hcc2,hff2⟩:=bj q;clear q)|(go_at_call 81;refine(bW _ _ _ _ _ _ (((U.out.now (ai (rr _ _) _)).now z.out).now G.out) V.2 HV.out).mono ?_;rintro e w3 ⟨rfl,y⟩;have HB4:=rn y;have hz3:wr.heap.size<w3.heap.size:=rv Z y.size;obtain⟨hcc3,hff3⟩:=bj y;clear y));go_ret;exact⟨by rw [HN.out];rfl,an HB1.out (an (ai (rr _ _) _) (an z.out G.out))⟩
   |false=>
   by_cases hk1:cs[k].f1<1
   ·have D:cd cs k=32:=by unfold cd;rw [J,hnb,X];simp [hk1]
    have hd1:decide (cs[k].f1<1)=true:=ru hk1;clear X hvr;have HN:=rn (show cC cs=32 from(bO _ _ k hlt HK.out (by rw [D];decide)).trans D);clear D J;go_wp2_with (first|(go_at_call 124;refine(eI _ _ _ (cs.take k) cs[k].f0 _ _ _ HT.out HL.out (by exact(ab (rP _ _) 0).trans rfl) HTW.out).mono ?_;rintro e w1 ⟨rfl,h⟩;have z:=rn h;have Y:wr.heap.size<w1.heap.size:=(by have:=h.size;simp at this;omega);obtain⟨hcc1,hff1⟩:=bj h;clear h)|(go_at_call 93;refine(dN _ _ ((U.out.now (ai (rr _ _) _)).now z.out) V.1).mono ?_;rintro e w2 ⟨rfl,q⟩;have G:=rn q;have Z:wr.heap.size<w2.heap.size:=rv Y q.size;obtain⟨hcc2,hff2⟩:=bj q;clear q)|(go_at_call 81;refine(bW _ _ _ _ _ _ (((U.out.now (ai (rr _ _) _)).now z.out).now G.out) V.2 HV.out).mono ?_;rintro e w3 ⟨rfl,y⟩;have HB4:=rn y;have hz3:wr.heap.size<w3.heap.size:=rv Z y.size;obtain⟨hcc3,hff3⟩:=bj y;clear y));go_ret;exact⟨by rw [HN.out];rfl,an HB1.out (an (ai (rr _ _) _) (an z.out G.out))⟩
   have hd1:decide (cs[k].f1<1)=false:=rC hk1;by_cases hk5:5<cs[k].f1
   ·have D:cd cs k=32:=by unfold cd;rw [J,hnb,X];simp [hk5]
    have hd5:decide (5<cs[k].f1)=true:=ru hk5;clear X hvr;have HN:=rn (show cC cs=32 from(bO _ _ k hlt HK.out (by rw [D];decide)).trans D);clear D J;go_wp2_with (first|(go_at_call 124;refine(eI _ _ _ (cs.take k) cs[k].f0 _ _ _ HT.out HL.out (by exact(ab (rP _ _) 0).trans rfl) HTW.out).mono ?_;rintro e w1 ⟨rfl,h⟩;have z:=rn h;have Y:wr.heap.size<w1.heap.size:=(by have:=h.size;simp at this;omega);obtain⟨hcc1,hff1⟩:=bj h;clear h)|(go_at_call 93;refine(dN _ _ ((U.out.now (ai (rr _ _) _)).now z.out) V.1).mono ?_;rintro e w2 ⟨rfl,q⟩;have G:=rn q;have Z:wr.heap.size<w2.heap.size:=rv Y q.size;obtain⟨hcc2,hff2⟩:=bj q;clear q)|(go_at_call 81;refine(bW _ _ _ _ _ _ (((U.out.now (ai (rr _ _) _)).now z.out).now G.out) V.2 HV.out).mono ?_;rintro e w3 ⟨rfl,y⟩;have HB4:=rn y;have hz3:wr.heap.size<w3.heap.size:=rv Z y.size;obtain⟨hcc3,hff3⟩:=bj y;clear y));go_ret;exact⟨by rw [HN.out];rfl,an HB1.out (an (ai (rr _ _) _) (an z.out G.out))⟩
   have hd5:decide (5<cs[k].f1)=false:=rC hk5;by_cases hr0:r=0
   case neg=>
    have D:cd cs k=32:=(by unfold cd;rw [J,hnb,X];simp [hvr,hr0]);have hd0:(r !=0)=true:=(by rw [rH];exact hr0);clear X hvr;have HN:=rn (show cC cs=32 from(bO _ _ k hlt HK.out (by rw [D];decide)).trans D);clear D J;go_wp2_with (first|(go_at_call 124;refine(eI _ _ _ (cs.take k) cs[k].f0 _ _ _ HT.out HL.out (by exact(ab (rP _ _) 0).trans rfl) HTW.out).mono ?_;rintro e w1 ⟨rfl,h⟩;have z:=rn h;have Y:wr.heap.size<w1.heap.size:=(by have:=h.size;simp at this;omega);obtain⟨hcc1,hff1⟩:=bj h;clear h)|(go_at_call 93;refine(dN _ _ ((U.out.now (ai (rr _ _) _)).now z.out) V.1).mono ?_;rintro e w2 ⟨rfl,q⟩;have G:=rn q;have Z:wr.heap.size<w2.heap.size:=rv Y q.size;obtain⟨hcc2,hff2⟩:=bj q;clear q)|(go_at_call 81;refine(bW _ _ _ _ _ _ (((U.out.now (ai (rr _ _) _)).now z.out).now G.out) V.2 HV.out).mono ?_;rintro e w3 ⟨rfl,y⟩;have HB4:=rn y;have hz3:wr.heap.size<w3.heap.size:=rv Z y.size;obtain⟨hcc3,hff3⟩:=bj y;clear y));go_ret;exact⟨by rw [HN.out];rfl,an HB1.out (an (ai (rr _ _) _) (an z.out (an G.out HB4.out)))⟩
   subst hr0;by_cases hd0:cs[k].f3.f0=0
   ·have D:cd cs k=0:=by unfold cd;rw [J,hnb,X];simp [hvr,hd0,hk1,hk5]
    have HM:=rn (cO _ _ HK.out D);have hn0:(cs[k].f3.f0==0)=true:=(by rw [rI];exact hd0);have hn1:(cs[k].f3.f0 !=0)=false:=(by simp [hd0]);clear X hvr D J hd0;go_wp2_with (first|(go_at_call 124;refine(eI _ _ _ (cs.take k) cs[k].f0 _ _ _ HT.out HL.out (by exact(ab (rP _ _) 0).trans rfl) HTW.out).mono ?_;rintro e w1 ⟨rfl,h⟩;have z:=rn h;have Y:wr.heap.size<w1.heap.size:=(by have:=h.size;simp at this;omega);obtain⟨hcc1,hff1⟩:=bj h;clear h)|(go_at_call 93;refine(dN _ _ ((U.out.now (ai (rr _ _) _)).now z.out) V.1).mono ?_;rintro e w2 ⟨rfl,q⟩;have G:=rn q;have Z:wr.heap.size<w2.heap.size:=rv Y q.size;obtain⟨hcc2,hff2⟩:=bj q;clear q)|(go_at_call 81;refine(bW _ _ _ _ _ _ (((U.out.now (ai (rr _ _) _)).now z.out).now G.out) V.2 HV.out).mono ?_;rintro e w3 ⟨rfl,y⟩;have HB4:=rn y;have hz3:wr.heap.size<w3.heap.size:=rv Z y.size;obtain⟨hcc3,hff3⟩:=bj y;clear y));have HBE:=rn (an HB.out (an (ai (rr _ _) _) (an z.out (an G.out HB4.out))));go_roundw;case rel=>exact⟨k+1,by omega,by go_num,HM,HBE⟩
    case measure=>simp [intOf];omega
   have hn0:(cs[k].f3.f0==0)=false:=(by rw [ry];exact hd0);have hn1:(cs[k].f3.f0 !=0)=true:=(by rw [rH];exact hd0);by_cases hdk:cs[k].f3.f0=cs[k].f1
   ·have D:cd cs k=0:=by unfold cd;rw [J,hnb,X];simp [hvr,hdk,hk1,hk5]
    have HM:=rn (cO _ _ HK.out D);have hn2:(cs[k].f3.f0==cs[k].f1)=true:=(by rw [rI];exact hdk);have hn3:(cs[k].f3.f0 !=cs[k].f1)=false:=(by simp [hdk]);clear X hvr D J hdk;go_wp2_with (first|(go_at_call 124;refine(eI _ _ _ (cs.take k) cs[k].f0 _ _ _ HT.out HL.out (by exact(ab (rP _ _) 0).trans rfl) HTW.out).mono ?_;rintro e w1 ⟨rfl,h⟩;have z:=rn h;have Y:wr.heap.size<w1.heap.size:=(by have:=h.size;simp at this;omega);obtain⟨hcc1,hff1⟩:=bj h;clear h)|(go_at_call 93;refine(dN _ _ ((U.out.now (ai (rr _ _) _)).now z.out) V.1).mono ?_;rintro e w2 ⟨rfl,q⟩;have G:=rn q;have Z:wr.heap.size<w2.heap.size:=rv Y q.size;obtain⟨hcc2,hff2⟩:=bj q;clear q)|(go_at_call 81;refine(bW _ _ _ _ _ _ (((U.out.now (ai (rr _ _) _)).now z.out).now G.out) V.2 HV.out).mono ?_;rintro e w3 ⟨rfl,y⟩;have HB4:=rn y;have hz3:wr.heap.size<w3.heap.size:=rv Z y.size;obtain⟨hcc3,hff3⟩:=bj y;clear y));have HBE:=rn (an HB.out (an (ai (rr _ _) _) (an z.out (an G.out HB4.out))));go_roundw;case rel=>exact⟨k+1,by omega,by go_num,HM,HBE⟩
    case measure=>simp [intOf];omega
   ·have D:cd cs k=32:=by unfold cd;rw [J,hnb,X];simp [hd0,hdk]
    have hn2:(cs[k].f3.f0==cs[k].f1)=false:=(by rw [ry];exact hdk);have hn3:(cs[k].f3.f0 !=cs[k].f1)=true:=(by rw [rH];exact hdk);clear X hvr;have HN:=rn (show cC cs=32 from(bO _ _ k hlt HK.out (by rw [D];decide)).trans D);clear D J;go_wp2_with (first|(go_at_call 124;refine(eI _ _ _ (cs.take k) cs[k].f0 _ _ _ HT.out HL.out (by exact(ab (rP _ _) 0).trans rfl) HTW.out).mono ?_;rintro e w1 ⟨rfl,h⟩;have z:=rn h;have Y:wr.heap.size<w1.heap.size:=(by have:=h.size;simp at this;omega);obtain⟨hcc1,hff1⟩:=bj h;clear h)|(go_at_call 93;refine(dN _ _ ((U.out.now (ai (rr _ _) _)).now z.out) V.1).mono ?_;rintro e w2 ⟨rfl,q⟩;have G:=rn q;have Z:wr.heap.size<w2.heap.size:=rv Y q.size;obtain⟨hcc2,hff2⟩:=bj q;clear q)|(go_at_call 81;refine(bW _ _ _ _ _ _ (((U.out.now (ai (rr _ _) _)).now z.out).now G.out) V.2 HV.out).mono ?_;rintro e w3 ⟨rfl,y⟩;have HB4:=rn y;have hz3:wr.heap.size<w3.heap.size:=rv Z y.size;obtain⟨hcc3,hff3⟩:=bj y;clear y));go_ret;exact⟨by rw [HN.out];rfl,an HB1.out (an (ai (rr _ _) _) (an z.out (an G.out HB4.out)))⟩
  ·have hkl:k=cs.length:=by omega
   subst hkl;have HN:=rn (show cC cs=0 from dE _ _ HK.out);go_wp2;go_ret;exact⟨by rw [HN.out];rfl,an HB0.out HB.out⟩
theorem cq(k n:Int)(b:Nat)(s:ByteArray)(r:Int)(w:World)(q:GT w)(y:s.size≤9223372036854775807)(h:aX ⟨k,n,b,s⟩=r):
 Calls Tryz.prog 88 #[.agg #[.int .i64 k, .int .i64 n, .float .f64 b, .string s]] w fun e z=>e= .returned (.int .i64 r)∧Below w.heap.size w z:=by
 subst h;exact jE k n b s w q y
set_option maxHeartbeats 4000000 in
set_option maxRecDepth 100000 in
theorem kQ(nm:ByteArray)(A1 A2 A3 A4:Option Addr)(c1 n2 c2 n3 c3 n4 c4:Nat)(cs:List S86)(w:World)(hG:GT w)(hr:k86.C w A1 cs.length cs)
 (hz:∀x∈cs,x.f0.size≤9223372036854775807∧x.f3.f3.size≤9223372036854775807):
 Calls Tryz.prog 59 #[.agg #[.string nm, .slice A1 cs.length c1, .slice A2 n2 c2, .slice A3 n3 c3, .slice A4 n4 c4]] w fun e w'=>e= .returned (.int .i64 (cC cs))∧Below w.heap.size w w':=by
 have hmx:=Kd.C_max hr;have HR:=rn hr;have HG:=rn hG;have HZ:=rn hz;have HX:=rn (show(w.alloc (.cells #[.string nm, .slice A1 cs.length c1, .slice A2 n2 c2, .slice A3 n3 c3, .slice A4 n4 c4] 48)).cell? ⟨w.heap.size,1,none⟩=some (.slice A1 cs.length c1)from(ab (rP w _) 1).trans rfl);have HB0:=rn (ai (rr w.heap.size w) (.cells #[.string nm, .slice A1 cs.length c1, .slice A2 n2 c2, .slice A3 n3 c3, .slice A4 n4 c4] 48));clear hr hG hz;have hu:=Tryz.underlying86;have hu84:=Tryz.underlying84;go_enter Tryz.func59,Tryz.ntmps59;go_wp2;obtain⟨W0,hW0⟩:∃W0:World,W0=w.alloc (.cells #[.string nm, .slice A1 cs.length c1, .slice A2 n2 c2, .slice A3 n3 c3, .slice A4 n4 c4] 48):=⟨_,rfl⟩;rw [←hW0]at HX HB0⊢;have HS:=rn (show w.heap.size<W0.heap.size from by rw [hW0];simp);clear hW0;go_loopw [3] (fun i wr=>∃k:Nat,k≤cs.length∧i= .int .i64 k∧Hid (e7 (cd cs) k=true)∧Hid (Below W0.heap.size W0 wr)) (fun i _=>cs.length-(intOf i).toNat);case atStart=>exact⟨0,rR _,rfl,rn (dG _),rn (rr _ _)⟩
 case round=>
  obtain⟨z,rfl⟩:∃z:World,z=wr:=⟨_,rfl⟩;obtain⟨k,hk,rfl,V,HB⟩:=hrel;have hcx:=aj HB.out HX.out;have hsz:w.heap.size<z.heap.size:=by have:=HS.out;have:=HB.out.size;omega
  by_cases Y:k<cs.length
  ·have hx:cs.getD k z86=cs[k]:=by simp [List.getD_eq_getElem?_getD,List.getElem?_eq_getElem Y]
   have Z:=rn hx;clear hx;have HB1:=rn (an HB0.out HB.out);obtain⟨ad,rfl,c0,c1',c2',c3',c4',c5,c6⟩:=kb (Kd.C_below HR.out HB1.out) k Y;have hm:=HZ.out _ (rL Y);have HGr:=rn (HG.out.now HB1.out);cases hnb:db cs[k].f0 with
   |false=>
    have h:cd cs k=30:=(by unfold cd;rw [Z.out,hnb];rfl);have D:=rn (show cC cs=30 from(bO _ _ k Y V.out (by rw [h];decide)).trans h);clear h;go_wp2_with (go_at_call 58;refine(fQ _ _ (HGr.out.now (ai (rr _ _) _)) hm.1).mono ?_;rintro e J ⟨rfl,X⟩;have U:=rn X;have hz2:z.heap.size<J.heap.size:=(by have:=X.size;simp at this;omega);obtain⟨hcc2,hff2⟩:=bj X;clear X);go_ret;exact⟨by rw [D.out];rfl,an HB1.out (an (ai (rr _ _) _) U.out)⟩
   |true=>
   have a2:=rn hnb;go_wp2_with (go_at_call 58;refine(fQ _ _ (HGr.out.now (ai (rr _ _) _)) hm.1).mono ?_;rintro e J ⟨rfl,X⟩;have U:=rn X;have hz2:z.heap.size<J.heap.size:=(by have:=X.size;simp at this;omega);obtain⟨hcc2,hff2⟩:=bj X;clear X);have a1:=rn (an HB1.out (an (ai (rr _ _) (.cells #[.string cs[k].f0, .int .i64 cs[k].f1, .bool cs[k].f2, .int .i64 cs[k].f3.f0, .int .i64 cs[k].f3.f1, .float .f64 cs[k].f3.f2, .string cs[k].f3.f3] 86)) U.out));have g0:=rn (show J.cell? ⟨z.heap.size,0,none⟩=some (.string cs[k].f0)from aj U.out ((ab (rP _ _) 0).trans rfl));have g1:=rn (show J.cell? ⟨z.heap.size,1,none⟩=some (.int .i64 cs[k].f1)from aj U.out ((ab (rP _ _) 1).trans rfl));have g3:=rn (show J.cell? ⟨z.heap.size,3,none⟩=some (.int .i64 cs[k].f3.f0)from aj U.out ((ab (rP _ _) 3).trans rfl));have g4:=rn (show J.cell? ⟨z.heap.size,4,none⟩=some (.int .i64 cs[k].f3.f1)from aj U.out ((ab (rP _ _) 4).trans rfl));have g5:=rn (show J.cell? ⟨z.heap.size,5,none⟩=some (.float .f64 cs[k].f3.f2)from aj U.out ((ab (rP _ _) 5).trans rfl));have g6:=rn (show J.cell? ⟨z.heap.size,6,none⟩=some (.string cs[k].f3.f3)from aj U.out ((ab (rP _ _) 6).trans rfl));have gx:=rn (show J.cell? ⟨w.heap.size,1,none⟩=some (.slice (some ad) cs.length c1)from aj U.out (aj (ai (rr _ _) _) hcx));have HBo:=rn (an HB.out (an (ai (rr _ _) (.cells #[.string cs[k].f0, .int .i64 cs[k].f1, .bool cs[k].f2, .int .i64 cs[k].f3.f0, .int .i64 cs[k].f3.f1, .float .f64 cs[k].f3.f2, .string cs[k].f3.f3] 86)) U.out));clear hcc2 hff2 c0 c1' c2' c3' c4' c5 c6 hcx hnb;go_loopw [5] (fun i wr=>∃j:Nat,j≤k∧i= .int .i64 j∧Hid ((cs.take j).any (fun x=>x.f0.toList==cs[k].f0.toList)=false)∧Hid (Below J.heap.size J wr)) (fun i _=>k-(intOf i).toNat);case atStart=>exact⟨0,rR _,rfl,rn (by simp),rn (rr _ _)⟩
   case round=>
    obtain⟨j,hj,rfl,HJ,q⟩:=hrel;by_cases hjl:j<k
    ·obtain⟨ad',he,d0,d1',d2',d3',d4',d5,d6⟩:=kb (Kd.C_below HR.out (an a1.out q.out)) j (by omega)
     obtain rfl:ad=ad':=(by injection he);clear he d1' d2' d3' d4' d5 d6;have hgx:=aj q.out gx.out;have hg0:=aj q.out g0.out;have hj0:(0:Int)≤(j:Int):=(by omega);have hj1:(j:Int)<(cs.length:Int):=(by omega);cases he:(cs[j].f0.toList==cs[k].f0.toList)with
     |true=>
      have h:cd cs k=31:=by
       unfold cd;rw [Z.out,a2.out];have:(cs.take k).any (fun x=>x.f0.toList==cs[k].f0.toList)=true:=by
        rw [sb];exact⟨cs[j],by rw [List.mem_take_iff_getElem];exact⟨j,by omega,rfl⟩,he⟩
       rw [this];rfl
      have D:=rn (show cC cs=31 from(bO _ _ k Y V.out (by rw [h];decide)).trans h);clear h;go_wp2;go_quiet (fail);go_wp2;go_ret;exact⟨by rw [D.out];rfl,aq (an a1.out q.out) _⟩
     |false=>
      have HM:=rn (show(cs.take (j+1)).any (fun x=>x.f0.toList==cs[k].f0.toList)=false from by
       rw [rM (by omega),se,HJ.out];simp [he])
      go_wp2;go_quiet (fail);go_wp2;have HBE:=rn (aq q.out nq);go_roundw;case rel=>exact⟨j+1,by omega,by go_num,HM,HBE⟩
      case measure=>simp [intOf];omega
    ·have hjk:j=k:=by omega
     subst hjk;have G:=HJ.out;have q0:=aj q.out g0.out;have q1:=aj q.out g1.out;have q3:=aj q.out g3.out;have q4:=aj q.out g4.out;have q5:=aj q.out g5.out;have q6:=aj q.out g6.out;have HG3:=rn (HG.out.now (an a1.out q.out));have hzr:z.heap.size<wr.heap.size:=rv hz2 q.out.size;obtain⟨r,hvr⟩:∃r,aX cs[j].f3=r:=⟨_,rfl⟩;have HV:=rn (show aX ⟨cs[j].f3.f0,cs[j].f3.f1,cs[j].f3.f2,cs[j].f3.f3⟩=r from hvr);by_cases hk1:cs[j].f1<1
     ·have hd1:decide (cs[j].f1<1)=true:=ru hk1
      have h:cd cs j=32:=(by unfold cd;rw [Z.out,a2.out,G];simp [hk1]);have D:=rn (show cC cs=32 from(bO _ _ j Y V.out (by rw [h];decide)).trans h);clear h G;go_wp2;go_ret;exact⟨by rw [D.out];rfl,an a1.out q.out⟩
     have hd1:decide (cs[j].f1<1)=false:=rC hk1;by_cases hk5:5<cs[j].f1
     ·have hd5:decide (5<cs[j].f1)=true:=ru hk5
      have h:cd cs j=32:=(by unfold cd;rw [Z.out,a2.out,G];simp [hk5]);have D:=rn (show cC cs=32 from(bO _ _ j Y V.out (by rw [h];decide)).trans h);clear h G;go_wp2;go_ret;exact⟨by rw [D.out];rfl,an a1.out q.out⟩
     have hd5:decide (5<cs[j].f1)=false:=rC hk5;by_cases hr0:r=0
     case neg=>
      have am:(r !=0)=true:=(by rw [rH];exact hr0);have h:cd cs j=32:=(by unfold cd;rw [Z.out,a2.out,G];simp [hvr,hr0]);have D:=rn (show cC cs=32 from(bO _ _ j Y V.out (by rw [h];decide)).trans h);clear h G;go_wp2_with (go_at_call 88;refine(cq _ _ _ _ _ _ HG3.out hm.2 HV.out).mono ?_;rintro e w3 ⟨rfl,y⟩;have av:=rn y;have hz3:z.heap.size<w3.heap.size:=rv hzr y.size;obtain⟨hcc3,hff3⟩:=bj y;clear y);go_ret;exact⟨by rw [D.out];rfl,an (an a1.out q.out) av.out⟩
     subst hr0;by_cases ap:cs[j].f3.f0=cs[j].f1
     ·have hn2:(cs[j].f3.f0==cs[j].f1)=true:=by rw [rI];exact ap
      have hn3:(cs[j].f3.f0 !=cs[j].f1)=false:=(by simp [ap]);have h:cd cs j=0:=(by unfold cd;rw [Z.out,a2.out,G];simp [hvr,ap,hk1,hk5]);have HM:=rn (cO _ _ V.out h);clear h G ap;go_wp2_with (go_at_call 88;refine(cq _ _ _ _ _ _ HG3.out hm.2 HV.out).mono ?_;rintro e w3 ⟨rfl,y⟩;have av:=rn y;have hz3:z.heap.size<w3.heap.size:=rv hzr y.size;obtain⟨hcc3,hff3⟩:=bj y;clear y);have HBE:=rn (an HBo.out (an q.out av.out));go_roundw;case rel=>exact⟨j+1,by omega,by go_num,HM,HBE⟩
      case measure=>simp [intOf];omega
     have hn2:(cs[j].f3.f0==cs[j].f1)=false:=(by rw [ry];exact ap);have hn3:(cs[j].f3.f0 !=cs[j].f1)=true:=(by rw [rH];exact ap);by_cases am:cs[j].f3.f0=0
     ·have hn0:(cs[j].f3.f0==0)=true:=by rw [rI];exact am
      have hn1:(cs[j].f3.f0 !=0)=false:=(by simp [am]);have h:cd cs j=0:=(by unfold cd;rw [Z.out,a2.out,G];simp [hvr,am,hk1,hk5]);have HM:=rn (cO _ _ V.out h);clear h G am ap;go_wp2_with (go_at_call 88;refine(cq _ _ _ _ _ _ HG3.out hm.2 HV.out).mono ?_;rintro e w3 ⟨rfl,y⟩;have av:=rn y;have hz3:z.heap.size<w3.heap.size:=rv hzr y.size;obtain⟨hcc3,hff3⟩:=bj y;clear y);have HBE:=rn (an HBo.out (an q.out av.out));go_roundw;case rel=>exact⟨j+1,by omega,by go_num,HM,HBE⟩
      case measure=>simp [intOf];omega
     ·have hn0:(cs[j].f3.f0==0)=false:=by rw [ry];exact am
      have hn1:(cs[j].f3.f0 !=0)=true:=(by rw [rH];exact am);have h:cd cs j=32:=(by unfold cd;rw [Z.out,a2.out,G];simp [am,ap]);have D:=rn (show cC cs=32 from(bO _ _ j Y V.out (by rw [h];decide)).trans h);clear h G;go_wp2_with (go_at_call 88;refine(cq _ _ _ _ _ _ HG3.out hm.2 HV.out).mono ?_;rintro e w3 ⟨rfl,y⟩;have av:=rn y;have hz3:z.heap.size<w3.heap.size:=rv hzr y.size;obtain⟨hcc3,hff3⟩:=bj y;clear y);go_ret;exact⟨by rw [D.out];rfl,an (an a1.out q.out) av.out⟩
  ·have hkl:k=cs.length:=by omega
   subst hkl;have D:=rn (show cC cs=0 from dE _ _ V.out);go_wp2;go_ret;exact⟨by rw [D.out];rfl,an HB0.out HB.out⟩
set_option maxHeartbeats 1000000 in
theorem mR(h nm:ByteArray)(q:Option Addr)(r d1:Nat)(y:Bool)(p:Addr)(b:Bool)(w:World)(hp:w.cell? p=some (.string nm))(D:(h.toList==nm.toList)=b):
 Calls Tryz.prog 99 #[.agg #[.string h, .slice q r d1, .bool y], .pointer (some p)] w fun e z=>e= .returned (.bool b)∧Below w.heap.size w z:=by
 have G:=aj (ai (rr w.heap.size w) (.cells #[.string h, .slice q r d1, .bool y] 88)) hp;clear hp;have J:=Tryz.underlying88;go_enter Tryz.func99,Tryz.ntmps99;go_wp2;go_ret;exact⟨rfl,(rr _ _).alloc (rA _) _⟩
def rh(l:List S88)(nm:ByteArray)(r:Int):Prop:=decide (0≤r)=l.any (fun x=>x.f0.toList==nm.toList)
set_option maxHeartbeats 1000000 in
theorem pN(A:Option Addr)(c n:Nat)(l:List S88)(nm:ByteArray)(p:Addr)(w:World)(hr:k88.C w A l.length l)(hn:l.length=n)(hp:w.cell? p=some (.string nm)):
 Calls Tryz.prog 128 #[.slice A n c, .func (.func 99) #[] #[.pointer (some p)]] w fun e U=>∃r:Int,e= .returned (.int .i64 r)∧rh l nm r∧Below w.heap.size w U:=by
 subst hn;have hmx:=Kd.C_max hr;have Z:=rn hr;have X:=rn hp;clear hr hp;have hu:=Tryz.underlying88;go_enter Tryz.func128,Tryz.ntmps128;go_wp2;go_loopw [8] (fun i wr=>∃k:Nat,k≤l.length∧i= .int .i64 k∧Hid ((l.take k).any (fun x=>x.f0.toList==nm.toList)=false)∧Hid (Below w.heap.size w wr)) (fun i _=>l.length-(intOf i).toNat);case atStart=>exact⟨0,rR _,rfl,rn (by simp),rn (rr _ _)⟩
 case round=>
  obtain⟨k,hk,rfl,V,h⟩:=hrel;by_cases J:k<l.length
  ·obtain⟨ad,X1,d1,rfl,c0,c1,c2,c3,c4⟩:=mu (Kd.C_below Z.out h.out) k J
   cases q:(l[k].f0.toList==nm.toList)with
   |true=>
    have G:=rn q;have y:=rn (show l.any (fun x=>x.f0.toList==nm.toList)=true from by rw [sb];exact⟨_,rL J,q⟩);clear q;go_wp2_with (go_at_call 99;refine(mR _ nm _ _ _ _ p true _ (aj h.out X.out) G.out).mono ?_;rintro e U ⟨rfl,z⟩;have D:=rn z;clear z);go_ret;exact⟨k,rfl,(show decide _=_ from by rw [y.out];simp),an h.out D.out⟩
   |false=>
    have G:=rn q;have y:=rn (show(l.take (k+1)).any (fun x=>x.f0.toList==nm.toList)=false from by rw [rM J,se,V.out];simp [q]);clear q;go_wp2_with (go_at_call 99;refine(mR _ nm _ _ _ _ p false _ (aj h.out X.out) G.out).mono ?_;rintro e U ⟨rfl,z⟩;have D:=rn z;clear z);have Y:=rn (an h.out D.out);go_roundw;case rel=>exact⟨k+1,by omega,by go_num,y,Y⟩
    case measure=>simp [intOf];omega
  ·have am:k=l.length:=by omega
   subst am;have y:=rn (show l.any (fun x=>x.f0.toList==nm.toList)=false from by have:=V.out;rwa [sl]at this);go_wp2;go_ret;exact⟨-1,rfl,(show decide _=_ from by rw [y.out];rfl),h.out⟩
set_option maxHeartbeats 1000000 in
theorem je(A:Option Addr)(c n:Nat)(l:List S88)(nm:ByteArray)(p:Addr)(b:Bool)(w:World)(hr:k88.C w A l.length l)(hn:l.length=n)(hp:w.cell? p=some (.string nm))(h:l.any (fun x=>x.f0.toList==nm.toList)=b):
 Calls Tryz.prog 98 #[.slice A n c, .func (.func 99) #[] #[.pointer (some p)]] w fun e q=>e= .returned (.bool b)∧Below w.heap.size w q:=by
 subst h hn;have D:=rn hr;have z:=rn hp;clear hr hp;go_enter Tryz.func98,Tryz.ntmps98;go_wp2_with (go_at_call 128;refine(pN _ _ _ _ nm _ _ D.out rfl z.out).mono ?_;rintro e q ⟨r,rfl,hr,h⟩;have y:=rn h;clear h);go_ret;exact⟨by rw [←(show decide (0≤r)=_ from hr)];rfl,y.out⟩
def dm(cs:List S86)(k:Int):Bool:=(cs.getD k.toNat z86).f2
set_option maxHeartbeats 1000000 in
theorem nf(k:Int)(A1:Option Addr)(c1:Nat)(cs:List S86)(b:Nat)(r:Bool)(w:World)(U:0≤k)(h1:k<cs.length)(hr:k86.C w A1 cs.length cs)(Z:w.cell? ⟨b,1,none⟩=some (.slice A1 cs.length c1))(V:dm cs k=r):
 Calls Tryz.prog 97 #[.int .i64 k, .pointer (some ⟨b,0,none⟩)] w fun e X=>e= .returned (.bool r)∧w=X:=by
 subst V;have am:=Kd.C_max hr;obtain⟨n,rfl⟩:=sr U;have hn:n<cs.length:=by omega
 obtain⟨ad,rfl,q,y,Y,z,D,G,J⟩:=kb hr n hn;have h:=rn (show dm cs (n:Int)=cs[n].f2 from by simp [dm,List.getD_eq_getElem?_getD,List.getElem?_eq_getElem hn]);clear hr q y z D G J;have hu:=Tryz.underlying86;go_enter Tryz.func97,Tryz.ntmps97;go_wp2;go_ret;exact⟨by rw [h.out];rfl,rfl⟩
def rk(cs:List S86)(l:List Int)(r:Int):Prop:=decide (0≤r)=l.any (dm cs)
set_option maxHeartbeats 1000000 in
theorem pO(A A1:Option Addr)(c c1 b:Nat)(l:List Int)(cs:List S86)(w:World)(G:(Kd.int .i64).C w A l.length l)(hr:k86.C w A1 cs.length cs)(Y:w.cell? ⟨b,1,none⟩=some (.slice A1 cs.length c1))(Z:∀x∈l,0≤x∧x<cs.length):
 Calls Tryz.prog 127 #[.slice A l.length c, .func (.func 97) #[] #[.pointer (some ⟨b,0,none⟩)]] w fun e J=>∃r:Int,e= .returned (.int .i64 r)∧rk cs l r∧w=J:=by
 have hmx:=Kd.C_max G;have HL:=rn G;have X:=rn hr;have V:=rn Y;have HC:=rn Z;clear G hr Y Z;go_enter Tryz.func127,Tryz.ntmps127;go_wp2;go_loop [8] (fun i=>∃k:Nat,k≤l.length∧i= .int .i64 k∧Hid ((l.take k).any (dm cs)=false)) (fun i=>l.length-(intOf i).toNat);case atStart=>exact⟨0,rR _,rfl,rn (by simp)⟩
 case round=>
  obtain⟨k,hk,rfl,U⟩:=hrel;by_cases y:k<l.length
  ·obtain⟨ad,rfl,am⟩:=Kd.at_int HL.out (k:Int) (by omega) (by omega)
   rw [fL l k y]at am;simp only [Int.toNat_natCast]at am;have z:=HC.out _ (rL y);cases h:dm cs l[k]with
   |true=>
    have D:=rn h;have q:=rn (show l.any (dm cs)=true from by rw [sb];exact⟨_,rL y,h⟩);clear h;go_wp2_with (go_at_call 97;refine(nf _ _ _ cs _ true _ z.1 z.2 X.out V.out D.out).mono ?_;rintro e J ⟨rfl,rfl⟩);go_ret;exact⟨k,rfl,(show decide _=_ from by rw [q.out];simp),rfl⟩
   |false=>
    have D:=rn h;have q:=rn (show(l.take (k+1)).any (dm cs)=false from by rw [rM y,se,U.out];simp [h]);clear h;go_wp2_with (go_at_call 97;refine(nf _ _ _ cs _ false _ z.1 z.2 X.out V.out D.out).mono ?_;rintro e J ⟨rfl,rfl⟩);go_round;case rel=>exact⟨k+1,by omega,by go_num,q⟩
    case measure=>simp [intOf];omega
  ·have hkl:k=l.length:=by omega
   subst hkl;have q:=rn (show l.any (dm cs)=false from by have:=U.out;rwa [sl]at this);go_wp2;go_ret;exact⟨-1,rfl,(show decide _=_ from by rw [q.out];rfl),rfl⟩
set_option maxHeartbeats 1000000 in
theorem eY(A A1:Option Addr)(c c1 b:Nat)(l:List Int)(cs:List S86)(r:Bool)(w:World)(z:(Kd.int .i64).C w A l.length l)(hr:k86.C w A1 cs.length cs)(h:w.cell? ⟨b,1,none⟩=some (.slice A1 cs.length c1))(y:∀x∈l,0≤x∧x<cs.length)(Y:l.any (dm cs)=r):
 Calls Tryz.prog 96 #[.slice A l.length c, .func (.func 97) #[] #[.pointer (some ⟨b,0,none⟩)]] w fun e D=>e= .returned (.bool r)∧w=D:=by
 subst Y;have J:=rn z;have V:=rn hr;have U:=rn h;have G:=rn y;clear z hr h y;go_enter Tryz.func96,Tryz.ntmps96;go_wp2_with (go_at_call 127;refine(pO _ _ _ _ _ _ cs _ J.out V.out U.out G.out).mono ?_;rintro e D ⟨q,rfl,X,rfl⟩);go_ret;exact⟨by rw [←(show decide (0≤q)=_ from X)];rfl,rfl⟩
def bZ(n:Nat)(xs:List S88)(i:Nat):Int:=
 if db (xs.getD i z88).f0=false then 30
 else if(xs.take i).any (fun x=>x.f0.toList==(xs.getD i z88).f0.toList)=true then 31
 else if cK n (xs.getD i z88).f1=false then 33 else 0
def cU(n:Nat)(rs:List S90)(i:Nat):Int:=
 if db (rs.getD i z90).f1=false then 30 else if cK n (rs.getD i z90).f0=false then 33 else 0
def bh(t:S48):Int:=
 if db t.f0=false then 30
 else if t.f1.length<1∨64<t.f1.length∨16<t.f3.length∨16<t.f4.length then 2
 else if cC t.f1≠0 then cC t.f1
 else if cK t.f1.length t.f2=false then 33
 else if t.f2.any (dm t.f1)=true then 33
 else if cn (bZ t.f1.length t.f3) t.f3.length≠0 then cn (bZ t.f1.length t.f3) t.f3.length
 else cn (cU t.f1.length t.f4) t.f4.length
structure df (t:S48):Prop where
 name:t.f0.size≤9223372036854775807
 cols:∀x∈t.f1,x.f0.size≤9223372036854775807∧x.f3.f3.size≤9223372036854775807
 idxs:∀x∈t.f3,x.f0.size≤9223372036854775807
 refs:∀x∈t.f4,x.f1.size≤9223372036854775807
theorem ea(n:Nat)(l:List Int)(h:cK n l=true):∀x∈l,0≤x∧x<n:=by
 unfold cK at h;simp only [Bool.and_eq_true,List.all_eq_true]at h;intro x q;obtain⟨i,hi,rfl⟩:=List.getElem_of_mem q;have:=h.2 i (by simpa using hi);unfold eg at this;simp only [List.getD_eq_getElem?_getD,List.getElem?_eq_getElem hi,Option.getD_some,Bool.and_eq_true,decide_eq_true_eq]at this;exact this.1
theorem cY(s:ByteArray)(b:Bool)(w:World)(q:GT w)(r:s.size≤9223372036854775807)(h:db s=b):Calls Tryz.prog 93 #[.string s] w fun e y=>e= .returned (.bool b)∧Below w.heap.size w y:=by
 subst h;exact dN s w q r
theorem cD(nm:ByteArray)(A1 A2 A3 A4:Option Addr)(c1 q c2 y c3 z c4:Nat)(cs:List S86)(r:Int)(w:World)(D:GT w)(hr:k86.C w A1 cs.length cs)(G:cs.length≤c1)
 (J:∀x∈cs,x.f0.size≤9223372036854775807∧x.f3.f3.size≤9223372036854775807)(h:cC cs=r):
 Calls Tryz.prog 94 #[.agg #[.string nm, .slice A1 cs.length c1, .slice A2 q c2, .slice A3 y c3, .slice A4 z c4]] w fun e U=>e= .returned (.int .i64 r)∧Below w.heap.size w U:=by
 subst h;exact gL nm A1 A2 A3 A4 c1 q c2 y c3 z c4 cs w D hr G J
theorem b_(nm:ByteArray)(A1 A2 A3 A4 A:Option Addr)(q c1 r c2 y c3 z c4 c:Nat)(l:List Int)(b:Bool)(w:World)(G:q≤9223372036854775807)(hr:(Kd.int .i64).C w A l.length l)(D:l.length≤c)(h:cK q l=b):
 Calls Tryz.prog 95 #[.agg #[.string nm, .slice A1 q c1, .slice A2 r c2, .slice A3 y c3, .slice A4 z c4], .slice A l.length c] w fun e J=>e= .returned (.bool b)∧Below w.heap.size w J:=by
 subst h;exact jf nm A1 A2 A3 A4 A q c1 r c2 y c3 z c4 c l w G hr D
set_option maxHeartbeats 8000000 in
set_option maxRecDepth 100000 in
theorem kc(nm:ByteArray)(A1 A2 A3 A4:Option Addr)(c1 c2 c3 c4:Nat)(cs:List S86)(key:List Int)(xs:List S88)(rs:List S90)(w:World)(hG:GT w)
 (hr1:k86.C w A1 cs.length cs)(hr2:(Kd.int .i64).C w A2 key.length key)(hr3:k88.C w A3 xs.length xs)(hr4:k90.C w A4 rs.length rs)(hc1:cs.length≤c1)(hc2:key.length≤c2)(hc3:xs.length≤c3)(hc4:rs.length≤c4)
 (hz:df ⟨nm,cs,key,xs,rs⟩):
 Calls Tryz.prog 67 #[.agg #[.string nm, .slice A1 cs.length c1, .slice A2 key.length c2, .slice A3 xs.length c3, .slice A4 rs.length c4]] w fun e w'=>e= .returned (.int .i64 (bh ⟨nm,cs,key,xs,rs⟩))∧Below w.heap.size w w':=by
 have hm1:=Kd.C_max hr1;have hm2:=Kd.C_max hr2;have hm3:=Kd.C_max hr3;have hm4:=Kd.C_max hr4;have HR1:=rn hr1;have HR2:=rn hr2;have HR3:=rn hr3;have HR4:=rn hr4;have HG:=rn hG;have HZ:=rn hz;have hzn:nm.size≤9223372036854775807:=hz.name;have HZC:=rn (show∀x∈cs,x.f0.size≤9223372036854775807∧x.f3.f3.size≤9223372036854775807 from hz.cols);have HB0:=rn (ai (rr w.heap.size w) (.cells #[.string nm, .slice A1 cs.length c1, .slice A2 key.length c2, .slice A3 xs.length c3, .slice A4 rs.length c4] 48));clear hr1 hr2 hr3 hr4 hG hz;have hu:=Tryz.underlying86;have hu48:=Tryz.underlying48;have hu88:=Tryz.underlying88;have hu90:=Tryz.underlying90;cases hnm:db nm with
 |false=>
  have HNM:=rn hnm;have X:=rn (show bh ⟨nm,cs,key,xs,rs⟩=30 from by simp [bh,hnm]);go_enter Tryz.func67,Tryz.ntmps67;go_wp2_with (first|(go_at_call 93;refine(cY _ _ _ (HG.out.now HB0.out) hzn HNM.out).mono ?_;rintro e w1 ⟨rfl,h⟩;have y:=rn (an HB0.out h);have hz1:w.heap.size<w1.heap.size:=(by have:=h.size;simp at this;omega);obtain⟨hcc1,hff1⟩:=bj h;clear h)|(go_at_call 94;refine(cD nm _ _ _ _ _ _ _ _ _ _ _ cs _ _ (HG.out.now y.out) (Kd.C_below HR1.out y.out) hc1 HZC.out HCE.out).mono ?_;rintro e w2 ⟨rfl,q⟩;have V:=rn (an y.out q);have hz2:w.heap.size<w2.heap.size:=rv hz1 q.size;obtain⟨hcc2,hff2⟩:=bj q;clear q)|(go_at_call 95;refine(b_ nm _ _ _ _ _ _ _ _ _ _ _ _ _ _ key _ _ (by omega) (Kd.C_below HR2.out V.out) hc2 HCB.out).mono ?_;rintro e J ⟨rfl,r⟩;have U:=rn (an V.out r);have hz3:w.heap.size<J.heap.size:=rv hz2 r.size;obtain⟨hcc3,hff3⟩:=bj r;have HX3:=rn (show J.cell? ⟨w.heap.size,1,none⟩=some (.slice A1 cs.length c1)from(by go_simp));clear r)|(go_at_call 96;refine(eY _ _ _ _ _ key cs _ _ (Kd.C_below HR2.out U.out) (Kd.C_below HR1.out U.out) HX3.out HRG.out HNU.out).mono ?_;rintro e w' ⟨rfl,rfl⟩));go_ret;exact⟨by rw [X.out];rfl,y.out⟩
 |true=>
 have HNM:=rn hnm;by_cases s1:cs.length<1
 ·have hd1:decide ((cs.length:Int)<1)=true:=ru (by omega)
  have X:=rn (show bh ⟨nm,cs,key,xs,rs⟩=2 from by simp [bh,hnm,s1]);go_enter Tryz.func67,Tryz.ntmps67;go_wp2_with (first|(go_at_call 93;refine(cY _ _ _ (HG.out.now HB0.out) hzn HNM.out).mono ?_;rintro e w1 ⟨rfl,h⟩;have y:=rn (an HB0.out h);have hz1:w.heap.size<w1.heap.size:=(by have:=h.size;simp at this;omega);obtain⟨hcc1,hff1⟩:=bj h;clear h)|(go_at_call 94;refine(cD nm _ _ _ _ _ _ _ _ _ _ _ cs _ _ (HG.out.now y.out) (Kd.C_below HR1.out y.out) hc1 HZC.out HCE.out).mono ?_;rintro e w2 ⟨rfl,q⟩;have V:=rn (an y.out q);have hz2:w.heap.size<w2.heap.size:=rv hz1 q.size;obtain⟨hcc2,hff2⟩:=bj q;clear q)|(go_at_call 95;refine(b_ nm _ _ _ _ _ _ _ _ _ _ _ _ _ _ key _ _ (by omega) (Kd.C_below HR2.out V.out) hc2 HCB.out).mono ?_;rintro e J ⟨rfl,r⟩;have U:=rn (an V.out r);have hz3:w.heap.size<J.heap.size:=rv hz2 r.size;obtain⟨hcc3,hff3⟩:=bj r;have HX3:=rn (show J.cell? ⟨w.heap.size,1,none⟩=some (.slice A1 cs.length c1)from(by go_simp));clear r)|(go_at_call 96;refine(eY _ _ _ _ _ key cs _ _ (Kd.C_below HR2.out U.out) (Kd.C_below HR1.out U.out) HX3.out HRG.out HNU.out).mono ?_;rintro e w' ⟨rfl,rfl⟩));go_ret;exact⟨by rw [X.out];rfl,y.out⟩
 have hd1:decide ((cs.length:Int)<1)=false:=rC (by omega);by_cases s2:64<cs.length
 ·have hd2:decide ((64:Int)<(cs.length:Int))=true:=ru (by omega)
  have hd2':decide (64<cs.length)=true:=ru (by omega);have X:=rn (show bh ⟨nm,cs,key,xs,rs⟩=2 from by simp [bh,hnm,s2]);go_enter Tryz.func67,Tryz.ntmps67;go_wp2_with (first|(go_at_call 93;refine(cY _ _ _ (HG.out.now HB0.out) hzn HNM.out).mono ?_;rintro e w1 ⟨rfl,h⟩;have y:=rn (an HB0.out h);have hz1:w.heap.size<w1.heap.size:=(by have:=h.size;simp at this;omega);obtain⟨hcc1,hff1⟩:=bj h;clear h)|(go_at_call 94;refine(cD nm _ _ _ _ _ _ _ _ _ _ _ cs _ _ (HG.out.now y.out) (Kd.C_below HR1.out y.out) hc1 HZC.out HCE.out).mono ?_;rintro e w2 ⟨rfl,q⟩;have V:=rn (an y.out q);have hz2:w.heap.size<w2.heap.size:=rv hz1 q.size;obtain⟨hcc2,hff2⟩:=bj q;clear q)|(go_at_call 95;refine(b_ nm _ _ _ _ _ _ _ _ _ _ _ _ _ _ key _ _ (by omega) (Kd.C_below HR2.out V.out) hc2 HCB.out).mono ?_;rintro e J ⟨rfl,r⟩;have U:=rn (an V.out r);have hz3:w.heap.size<J.heap.size:=rv hz2 r.size;obtain⟨hcc3,hff3⟩:=bj r;have HX3:=rn (show J.cell? ⟨w.heap.size,1,none⟩=some (.slice A1 cs.length c1)from(by go_simp));clear r)|(go_at_call 96;refine(eY _ _ _ _ _ key cs _ _ (Kd.C_below HR2.out U.out) (Kd.C_below HR1.out U.out) HX3.out HRG.out HNU.out).mono ?_;rintro e w' ⟨rfl,rfl⟩));go_ret;exact⟨by rw [X.out];rfl,y.out⟩
 have hd2:decide ((64:Int)<(cs.length:Int))=false:=rC (by omega);have hd2':decide (64<cs.length)=false:=rC (by omega);by_cases s3:16<xs.length
 ·have hd3:decide (16<xs.length)=true:=ru (by omega)
  have X:=rn (show bh ⟨nm,cs,key,xs,rs⟩=2 from by simp [bh,hnm,s3]);go_enter Tryz.func67,Tryz.ntmps67;go_wp2_with (first|(go_at_call 93;refine(cY _ _ _ (HG.out.now HB0.out) hzn HNM.out).mono ?_;rintro e w1 ⟨rfl,h⟩;have y:=rn (an HB0.out h);have hz1:w.heap.size<w1.heap.size:=(by have:=h.size;simp at this;omega);obtain⟨hcc1,hff1⟩:=bj h;clear h)|(go_at_call 94;refine(cD nm _ _ _ _ _ _ _ _ _ _ _ cs _ _ (HG.out.now y.out) (Kd.C_below HR1.out y.out) hc1 HZC.out HCE.out).mono ?_;rintro e w2 ⟨rfl,q⟩;have V:=rn (an y.out q);have hz2:w.heap.size<w2.heap.size:=rv hz1 q.size;obtain⟨hcc2,hff2⟩:=bj q;clear q)|(go_at_call 95;refine(b_ nm _ _ _ _ _ _ _ _ _ _ _ _ _ _ key _ _ (by omega) (Kd.C_below HR2.out V.out) hc2 HCB.out).mono ?_;rintro e J ⟨rfl,r⟩;have U:=rn (an V.out r);have hz3:w.heap.size<J.heap.size:=rv hz2 r.size;obtain⟨hcc3,hff3⟩:=bj r;have HX3:=rn (show J.cell? ⟨w.heap.size,1,none⟩=some (.slice A1 cs.length c1)from(by go_simp));clear r)|(go_at_call 96;refine(eY _ _ _ _ _ key cs _ _ (Kd.C_below HR2.out U.out) (Kd.C_below HR1.out U.out) HX3.out HRG.out HNU.out).mono ?_;rintro e w' ⟨rfl,rfl⟩));go_ret;exact⟨by rw [X.out];rfl,y.out⟩
 have hd3:decide (16<xs.length)=false:=rC (by omega);by_cases s4:16<rs.length
 ·have hd4:decide (16<rs.length)=true:=ru (by omega)
  have X:=rn (show bh ⟨nm,cs,key,xs,rs⟩=2 from by simp [bh,hnm,s4]);go_enter Tryz.func67,Tryz.ntmps67;go_wp2_with (first|(go_at_call 93;refine(cY _ _ _ (HG.out.now HB0.out) hzn HNM.out).mono ?_;rintro e w1 ⟨rfl,h⟩;have y:=rn (an HB0.out h);have hz1:w.heap.size<w1.heap.size:=(by have:=h.size;simp at this;omega);obtain⟨hcc1,hff1⟩:=bj h;clear h)|(go_at_call 94;refine(cD nm _ _ _ _ _ _ _ _ _ _ _ cs _ _ (HG.out.now y.out) (Kd.C_below HR1.out y.out) hc1 HZC.out HCE.out).mono ?_;rintro e w2 ⟨rfl,q⟩;have V:=rn (an y.out q);have hz2:w.heap.size<w2.heap.size:=rv hz1 q.size;obtain⟨hcc2,hff2⟩:=bj q;clear q)|(go_at_call 95;refine(b_ nm _ _ _ _ _ _ _ _ _ _ _ _ _ _ key _ _ (by omega) (Kd.C_below HR2.out V.out) hc2 HCB.out).mono ?_;rintro e J ⟨rfl,r⟩;have U:=rn (an V.out r);have hz3:w.heap.size<J.heap.size:=rv hz2 r.size;obtain⟨hcc3,hff3⟩:=bj r;have HX3:=rn (show J.cell? ⟨w.heap.size,1,none⟩=some (.slice A1 cs.length c1)from(by go_simp));clear r)|(go_at_call 96;refine(eY _ _ _ _ _ key cs _ _ (Kd.C_below HR2.out U.out) (Kd.C_below HR1.out U.out) HX3.out HRG.out HNU.out).mono ?_;rintro e w' ⟨rfl,rfl⟩));go_ret;exact⟨by rw [X.out];rfl,y.out⟩
 have hd4:decide (16<rs.length)=false:=rC (by omega);obtain⟨ce,G⟩:∃ce,cC cs=ce:=⟨_,rfl⟩;have HCE:=rn G;by_cases hce0:ce=0
 case neg=>
  have hd5:(ce !=0)=true:=by rw [rH];exact hce0
  have X:=rn (show bh ⟨nm,cs,key,xs,rs⟩=ce from by simp [bh,hnm,s1,s2,s3,s4,G,hce0]);go_enter Tryz.func67,Tryz.ntmps67;go_wp2_with (first|(go_at_call 93;refine(cY _ _ _ (HG.out.now HB0.out) hzn HNM.out).mono ?_;rintro e w1 ⟨rfl,h⟩;have y:=rn (an HB0.out h);have hz1:w.heap.size<w1.heap.size:=(by have:=h.size;simp at this;omega);obtain⟨hcc1,hff1⟩:=bj h;clear h)|(go_at_call 94;refine(cD nm _ _ _ _ _ _ _ _ _ _ _ cs _ _ (HG.out.now y.out) (Kd.C_below HR1.out y.out) hc1 HZC.out HCE.out).mono ?_;rintro e w2 ⟨rfl,q⟩;have V:=rn (an y.out q);have hz2:w.heap.size<w2.heap.size:=rv hz1 q.size;obtain⟨hcc2,hff2⟩:=bj q;clear q)|(go_at_call 95;refine(b_ nm _ _ _ _ _ _ _ _ _ _ _ _ _ _ key _ _ (by omega) (Kd.C_below HR2.out V.out) hc2 HCB.out).mono ?_;rintro e J ⟨rfl,r⟩;have U:=rn (an V.out r);have hz3:w.heap.size<J.heap.size:=rv hz2 r.size;obtain⟨hcc3,hff3⟩:=bj r;have HX3:=rn (show J.cell? ⟨w.heap.size,1,none⟩=some (.slice A1 cs.length c1)from(by go_simp));clear r)|(go_at_call 96;refine(eY _ _ _ _ _ key cs _ _ (Kd.C_below HR2.out U.out) (Kd.C_below HR1.out U.out) HX3.out HRG.out HNU.out).mono ?_;rintro e w' ⟨rfl,rfl⟩));go_ret;exact⟨by rw [X.out];rfl,V.out⟩
 subst hce0;cases hcb:cK cs.length key with
 |false=>
  have HCB:=rn hcb;have X:=rn (show bh ⟨nm,cs,key,xs,rs⟩=33 from by simp [bh,hnm,s1,s2,s3,s4,G,hcb]);go_enter Tryz.func67,Tryz.ntmps67;go_wp2_with (first|(go_at_call 93;refine(cY _ _ _ (HG.out.now HB0.out) hzn HNM.out).mono ?_;rintro e w1 ⟨rfl,h⟩;have y:=rn (an HB0.out h);have hz1:w.heap.size<w1.heap.size:=(by have:=h.size;simp at this;omega);obtain⟨hcc1,hff1⟩:=bj h;clear h)|(go_at_call 94;refine(cD nm _ _ _ _ _ _ _ _ _ _ _ cs _ _ (HG.out.now y.out) (Kd.C_below HR1.out y.out) hc1 HZC.out HCE.out).mono ?_;rintro e w2 ⟨rfl,q⟩;have V:=rn (an y.out q);have hz2:w.heap.size<w2.heap.size:=rv hz1 q.size;obtain⟨hcc2,hff2⟩:=bj q;clear q)|(go_at_call 95;refine(b_ nm _ _ _ _ _ _ _ _ _ _ _ _ _ _ key _ _ (by omega) (Kd.C_below HR2.out V.out) hc2 HCB.out).mono ?_;rintro e J ⟨rfl,r⟩;have U:=rn (an V.out r);have hz3:w.heap.size<J.heap.size:=rv hz2 r.size;obtain⟨hcc3,hff3⟩:=bj r;have HX3:=rn (show J.cell? ⟨w.heap.size,1,none⟩=some (.slice A1 cs.length c1)from(by go_simp));clear r)|(go_at_call 96;refine(eY _ _ _ _ _ key cs _ _ (Kd.C_below HR2.out U.out) (Kd.C_below HR1.out U.out) HX3.out HRG.out HNU.out).mono ?_;rintro e w' ⟨rfl,rfl⟩));go_ret;exact⟨by rw [X.out];rfl,U.out⟩
 |true=>
 have HCB:=rn hcb;have HRG:=rn (ea _ _ hcb);cases hnu:key.any (dm cs)with
 |true=>
  have HNU:=rn hnu;have X:=rn (show bh ⟨nm,cs,key,xs,rs⟩=33 from by simp only [bh,hnm,G,hcb,hnu];simp [s1,s2,s3,s4]);go_enter Tryz.func67,Tryz.ntmps67;go_wp2_with (first|(go_at_call 93;refine(cY _ _ _ (HG.out.now HB0.out) hzn HNM.out).mono ?_;rintro e w1 ⟨rfl,h⟩;have y:=rn (an HB0.out h);have hz1:w.heap.size<w1.heap.size:=(by have:=h.size;simp at this;omega);obtain⟨hcc1,hff1⟩:=bj h;clear h)|(go_at_call 94;refine(cD nm _ _ _ _ _ _ _ _ _ _ _ cs _ _ (HG.out.now y.out) (Kd.C_below HR1.out y.out) hc1 HZC.out HCE.out).mono ?_;rintro e w2 ⟨rfl,q⟩;have V:=rn (an y.out q);have hz2:w.heap.size<w2.heap.size:=rv hz1 q.size;obtain⟨hcc2,hff2⟩:=bj q;clear q)|(go_at_call 95;refine(b_ nm _ _ _ _ _ _ _ _ _ _ _ _ _ _ key _ _ (by omega) (Kd.C_below HR2.out V.out) hc2 HCB.out).mono ?_;rintro e J ⟨rfl,r⟩;have U:=rn (an V.out r);have hz3:w.heap.size<J.heap.size:=rv hz2 r.size;obtain⟨hcc3,hff3⟩:=bj r;have HX3:=rn (show J.cell? ⟨w.heap.size,1,none⟩=some (.slice A1 cs.length c1)from(by go_simp));clear r)|(go_at_call 96;refine(eY _ _ _ _ _ key cs _ _ (Kd.C_below HR2.out U.out) (Kd.C_below HR1.out U.out) HX3.out HRG.out HNU.out).mono ?_;rintro e w' ⟨rfl,rfl⟩));go_ret;exact⟨by rw [X.out];rfl,U.out⟩
 |false=>
 have HNU:=rn hnu;have HT0:=rn (show bh ⟨nm,cs,key,xs,rs⟩=(if cn (bZ cs.length xs) xs.length≠0 then cn (bZ cs.length xs) xs.length else cn (cU cs.length rs) rs.length)from by
  simp only [bh,hnm,G,hcb,hnu];simp [s1,s2,s3,s4])
 go_enter Tryz.func67,Tryz.ntmps67;go_wp2_with (first|(go_at_call 93;refine(cY _ _ _ (HG.out.now HB0.out) hzn HNM.out).mono ?_;rintro e w1 ⟨rfl,h⟩;have y:=rn (an HB0.out h);have hz1:w.heap.size<w1.heap.size:=(by have:=h.size;simp at this;omega);obtain⟨hcc1,hff1⟩:=bj h;clear h)|(go_at_call 94;refine(cD nm _ _ _ _ _ _ _ _ _ _ _ cs _ _ (HG.out.now y.out) (Kd.C_below HR1.out y.out) hc1 HZC.out HCE.out).mono ?_;rintro e w2 ⟨rfl,q⟩;have V:=rn (an y.out q);have hz2:w.heap.size<w2.heap.size:=rv hz1 q.size;obtain⟨hcc2,hff2⟩:=bj q;clear q)|(go_at_call 95;refine(b_ nm _ _ _ _ _ _ _ _ _ _ _ _ _ _ key _ _ (by omega) (Kd.C_below HR2.out V.out) hc2 HCB.out).mono ?_;rintro e J ⟨rfl,r⟩;have U:=rn (an V.out r);have hz3:w.heap.size<J.heap.size:=rv hz2 r.size;obtain⟨hcc3,hff3⟩:=bj r;have HX3:=rn (show J.cell? ⟨w.heap.size,1,none⟩=some (.slice A1 cs.length c1)from(by go_simp));clear r)|(go_at_call 96;refine(eY _ _ _ _ _ key cs _ _ (Kd.C_below HR2.out U.out) (Kd.C_below HR1.out U.out) HX3.out HRG.out HNU.out).mono ?_;rintro e w' ⟨rfl,rfl⟩));have e0:=rn (show J.cell? ⟨w.heap.size,0,none⟩=some (.string nm)from(by go_simp));have e2:=rn (show J.cell? ⟨w.heap.size,2,none⟩=some (.slice A2 key.length c2)from(by go_simp));have e3:=rn (show J.cell? ⟨w.heap.size,3,none⟩=some (.slice A3 xs.length c3)from(by go_simp));have e4:=rn (show J.cell? ⟨w.heap.size,4,none⟩=some (.slice A4 rs.length c4)from(by go_simp));clear hcc1 hff1 hcc2 hff2 hcc3 hff3 hnm G hcb hnu s1 s2 s3 s4 hd1 hd2 hd2' hd3 hd4 hz1 hz2;go_loopw [56] (fun i wr=>∃k:Nat,k≤xs.length∧i= .int .i64 k∧Hid (e7 (bZ cs.length xs) k=true)∧Hid (Below J.heap.size J wr)) (fun i _=>xs.length-(intOf i).toNat);case atStart=>exact⟨0,rR _,rfl,rn (dG _),rn (rr _ _)⟩
 case round=>
  obtain⟨z,rfl⟩:∃z:World,z=wr:=⟨_,rfl⟩;obtain⟨k,hk,rfl,HK,HBk⟩:=hrel;have HBw:=rn (an U.out HBk.out);have q0:=aj HBk.out e0.out;have q1:=aj HBk.out HX3.out;have q2:=aj HBk.out e2.out;have q3:=aj HBk.out e3.out;have q4:=aj HBk.out e4.out;have hzo:w.heap.size<z.heap.size:=rv hz3 HBk.out.size;have HGo:=rn (HG.out.now HBw.out);by_cases hlt:k<xs.length
  ·have hx:xs.getD k z88=xs[k]:=by simp [List.getD_eq_getElem?_getD,List.getElem?_eq_getElem hlt]
   obtain⟨ad,X1,d1,rfl,b0,b1,b2,b3,b4⟩:=mu (Kd.C_below HR3.out HBw.out) k hlt;have HLI:=rn b4;clear b4;have HTK:=rn (Kd.C_take (Kd.C_alloc (Kd.C_below HR3.out HBw.out) (.cells #[.string xs[k].f0, .slice X1 xs[k].f1.length d1, .bool xs[k].f2] 88)) (show k≤xs.length by omega));have HLK:=rn (show(xs.take k).length=k from by simp;omega);have HZK:=rn (HZ.out.idxs _ (rL hlt));obtain⟨bt,htw⟩:∃b,(xs.take k).any (fun x=>x.f0.toList==xs[k].f0.toList)=b:=⟨_,rfl⟩;have HTW:=rn htw;cases hnb:db xs[k].f0 with
   |false=>
    have HNK:=rn hnb;have G:bZ cs.length xs k=30:=(by unfold bZ;rw [hx];simp only [hnb];rfl);have HF:=rn ((bO (bZ cs.length xs) xs.length k hlt HK.out (by rw [G];decide)).trans G);have X:=rn (show bh ⟨nm,cs,key,xs,rs⟩=30 from by rw [HT0.out,HF.out];rfl);clear G;go_wp2_with (first|(go_at_call 98;refine(je _ _ _ (xs.take k) xs[k].f0 _ _ _ HTK.out HLK.out (by exact(ab (rP _ _) 0).trans rfl) HTW.out).mono ?_;rintro e w4 ⟨rfl,hb4⟩;have HB4:=rn (an (ai (rr z.heap.size z) (.cells #[.string xs[k].f0, .slice X1 xs[k].f1.length d1, .bool xs[k].f2] 88)) hb4);have hz4:z.heap.size<w4.heap.size:=(by have:=hb4.size;simp at this;omega);have hy4:w.heap.size<w4.heap.size:=Nat.lt_trans hzo hz4;obtain⟨hcc4,hff4⟩:=bj hb4;clear hb4)|(go_at_call 93;refine(cY _ _ _ (HGo.out.now HB4.out) HZK.out HNK.out).mono ?_;rintro e w5 ⟨rfl,D⟩;have Z:=rn (an HB4.out D);have hz5:z.heap.size<w5.heap.size:=rv hz4 D.size;obtain⟨hcc5,hff5⟩:=bj D;clear D)|(go_at_call 95;refine(b_ nm _ _ _ _ _ _ _ _ _ _ _ _ _ _ xs[k].f1 _ _ (by omega) (Kd.C_below HLI.out Z.out) b3 HCK.out).mono ?_;rintro e w6 ⟨rfl,Y⟩;have HB6:=rn (an Z.out Y);have hz6:z.heap.size<w6.heap.size:=rv hz5 Y.size;clear Y));go_ret;exact⟨by rw [X.out];rfl,an HBw.out Z.out⟩
   |true=>
   have HNK:=rn hnb;cases bt with
   |true=>
    have G:bZ cs.length xs k=31:=(by unfold bZ;rw [hx];simp only [hnb,htw];rfl);have HF:=rn ((bO (bZ cs.length xs) xs.length k hlt HK.out (by rw [G];decide)).trans G);have X:=rn (show bh ⟨nm,cs,key,xs,rs⟩=31 from by rw [HT0.out,HF.out];rfl);clear G;go_wp2_with (first|(go_at_call 98;refine(je _ _ _ (xs.take k) xs[k].f0 _ _ _ HTK.out HLK.out (by exact(ab (rP _ _) 0).trans rfl) HTW.out).mono ?_;rintro e w4 ⟨rfl,hb4⟩;have HB4:=rn (an (ai (rr z.heap.size z) (.cells #[.string xs[k].f0, .slice X1 xs[k].f1.length d1, .bool xs[k].f2] 88)) hb4);have hz4:z.heap.size<w4.heap.size:=(by have:=hb4.size;simp at this;omega);have hy4:w.heap.size<w4.heap.size:=Nat.lt_trans hzo hz4;obtain⟨hcc4,hff4⟩:=bj hb4;clear hb4)|(go_at_call 93;refine(cY _ _ _ (HGo.out.now HB4.out) HZK.out HNK.out).mono ?_;rintro e w5 ⟨rfl,D⟩;have Z:=rn (an HB4.out D);have hz5:z.heap.size<w5.heap.size:=rv hz4 D.size;obtain⟨hcc5,hff5⟩:=bj D;clear D)|(go_at_call 95;refine(b_ nm _ _ _ _ _ _ _ _ _ _ _ _ _ _ xs[k].f1 _ _ (by omega) (Kd.C_below HLI.out Z.out) b3 HCK.out).mono ?_;rintro e w6 ⟨rfl,Y⟩;have HB6:=rn (an Z.out Y);have hz6:z.heap.size<w6.heap.size:=rv hz5 Y.size;clear Y));go_ret;exact⟨by rw [X.out];rfl,an HBw.out Z.out⟩
   |false=>
   cases hck:cK cs.length xs[k].f1 with
   |false=>
    have HCK:=rn hck;have G:bZ cs.length xs k=33:=(by unfold bZ;rw [hx];simp only [hnb,htw,hck];rfl);have HF:=rn ((bO (bZ cs.length xs) xs.length k hlt HK.out (by rw [G];decide)).trans G);have X:=rn (show bh ⟨nm,cs,key,xs,rs⟩=33 from by rw [HT0.out,HF.out];rfl);clear G;go_wp2_with (first|(go_at_call 98;refine(je _ _ _ (xs.take k) xs[k].f0 _ _ _ HTK.out HLK.out (by exact(ab (rP _ _) 0).trans rfl) HTW.out).mono ?_;rintro e w4 ⟨rfl,hb4⟩;have HB4:=rn (an (ai (rr z.heap.size z) (.cells #[.string xs[k].f0, .slice X1 xs[k].f1.length d1, .bool xs[k].f2] 88)) hb4);have hz4:z.heap.size<w4.heap.size:=(by have:=hb4.size;simp at this;omega);have hy4:w.heap.size<w4.heap.size:=Nat.lt_trans hzo hz4;obtain⟨hcc4,hff4⟩:=bj hb4;clear hb4)|(go_at_call 93;refine(cY _ _ _ (HGo.out.now HB4.out) HZK.out HNK.out).mono ?_;rintro e w5 ⟨rfl,D⟩;have Z:=rn (an HB4.out D);have hz5:z.heap.size<w5.heap.size:=rv hz4 D.size;obtain⟨hcc5,hff5⟩:=bj D;clear D)|(go_at_call 95;refine(b_ nm _ _ _ _ _ _ _ _ _ _ _ _ _ _ xs[k].f1 _ _ (by omega) (Kd.C_below HLI.out Z.out) b3 HCK.out).mono ?_;rintro e w6 ⟨rfl,Y⟩;have HB6:=rn (an Z.out Y);have hz6:z.heap.size<w6.heap.size:=rv hz5 Y.size;clear Y));go_ret;exact⟨by rw [X.out];rfl,an HBw.out HB6.out⟩
   |true=>
    have HCK:=rn hck;have G:bZ cs.length xs k=0:=(by unfold bZ;rw [hx];simp only [hnb,htw,hck];rfl);have HM:=rn (cO _ _ HK.out G);clear G hnb htw hck hx;go_wp2_with (first|(go_at_call 98;refine(je _ _ _ (xs.take k) xs[k].f0 _ _ _ HTK.out HLK.out (by exact(ab (rP _ _) 0).trans rfl) HTW.out).mono ?_;rintro e w4 ⟨rfl,hb4⟩;have HB4:=rn (an (ai (rr z.heap.size z) (.cells #[.string xs[k].f0, .slice X1 xs[k].f1.length d1, .bool xs[k].f2] 88)) hb4);have hz4:z.heap.size<w4.heap.size:=(by have:=hb4.size;simp at this;omega);have hy4:w.heap.size<w4.heap.size:=Nat.lt_trans hzo hz4;obtain⟨hcc4,hff4⟩:=bj hb4;clear hb4)|(go_at_call 93;refine(cY _ _ _ (HGo.out.now HB4.out) HZK.out HNK.out).mono ?_;rintro e w5 ⟨rfl,D⟩;have Z:=rn (an HB4.out D);have hz5:z.heap.size<w5.heap.size:=rv hz4 D.size;obtain⟨hcc5,hff5⟩:=bj D;clear D)|(go_at_call 95;refine(b_ nm _ _ _ _ _ _ _ _ _ _ _ _ _ _ xs[k].f1 _ _ (by omega) (Kd.C_below HLI.out Z.out) b3 HCK.out).mono ?_;rintro e w6 ⟨rfl,Y⟩;have HB6:=rn (an Z.out Y);have hz6:z.heap.size<w6.heap.size:=rv hz5 Y.size;clear Y));have HBE:=rn (an HBk.out HB6.out);go_roundw;case rel=>exact⟨k+1,by omega,by go_num,HM,HBE⟩
    case measure=>simp [intOf];omega
  ·have hkl:k=xs.length:=by omega
   subst hkl;have HI0:=rn (dE (bZ cs.length xs) xs.length HK.out);clear HK;go_wp2;obtain⟨w7,rfl⟩:∃w7:World,w7=z:=⟨_,rfl⟩;have HBw7:=rn HBw.out;have f0:=rn q0;have f1:=rn q1;have f2:=rn q2;have f3:=rn q3;have f4:=rn q4;clear q0 q1 q2 q3 q4 HBw HGo;go_loopw [84] (fun i wr=>∃k:Nat,k≤rs.length∧i= .int .i64 k∧Hid (e7 (cU cs.length rs) k=true)∧Hid (Below w7.heap.size w7 wr)) (fun i _=>rs.length-(intOf i).toNat);case atStart=>exact⟨0,rR _,rfl,rn (dG _),rn (rr _ _)⟩
   case round=>
    obtain⟨z,rfl⟩:∃z:World,z=wr:=⟨_,rfl⟩;obtain⟨k,hk,rfl,HK,HBk⟩:=hrel;have HBw:=rn (an HBw7.out HBk.out);have q0:=aj HBk.out f0.out;have q1:=aj HBk.out f1.out;have q2:=aj HBk.out f2.out;have q3:=aj HBk.out f3.out;have q4:=aj HBk.out f4.out;have hzp:w.heap.size<z.heap.size:=rv hzo HBk.out.size;have HGo:=rn (HG.out.now HBw.out);by_cases hlt:k<rs.length
    ·have hx:rs.getD k z90=rs[k]:=by simp [List.getD_eq_getElem?_getD,List.getElem?_eq_getElem hlt]
     obtain⟨ad,X1,d1,rfl,b0,b1,b3,b4⟩:=o5 (Kd.C_below HR4.out HBw.out) k hlt;have HLI:=rn b4;clear b4;have HZK:=rn (HZ.out.refs _ (rL hlt));cases hnb:db rs[k].f1 with
     |false=>
      have HNK:=rn hnb;have G:cU cs.length rs k=30:=(by unfold cU;rw [hx];simp only [hnb];rfl);have HF:=rn ((bO (cU cs.length rs) rs.length k hlt HK.out (by rw [G];decide)).trans G);have X:=rn (show bh ⟨nm,cs,key,xs,rs⟩=30 from by rw [HT0.out,HI0.out,HF.out];rfl);clear G;go_wp2_with (first|(go_at_call 93;refine(cY _ _ _ (HGo.out.now (ai (rr _ _) _)) HZK.out HNK.out).mono ?_;rintro e w5 ⟨rfl,D⟩;have Z:=rn (an (ai (rr z.heap.size z) (.cells #[.slice X1 rs[k].f0.length d1, .string rs[k].f1] 90)) D);have hz5:z.heap.size<w5.heap.size:=(by have:=D.size;simp at this;omega);obtain⟨hcc5,hff5⟩:=bj D;clear D)|(go_at_call 95;refine(b_ nm _ _ _ _ _ _ _ _ _ _ _ _ _ _ rs[k].f0 _ _ (by omega) (Kd.C_below HLI.out Z.out) b3 HCK.out).mono ?_;rintro e w6 ⟨rfl,Y⟩;have HB6:=rn (an Z.out Y);have hz6:z.heap.size<w6.heap.size:=rv hz5 Y.size;clear Y));go_ret;exact⟨by rw [X.out];rfl,an HBw.out Z.out⟩
     |true=>
     have HNK:=rn hnb;cases hck:cK cs.length rs[k].f0 with
     |false=>
      have HCK:=rn hck;have G:cU cs.length rs k=33:=(by unfold cU;rw [hx];simp only [hnb,hck];rfl);have HF:=rn ((bO (cU cs.length rs) rs.length k hlt HK.out (by rw [G];decide)).trans G);have X:=rn (show bh ⟨nm,cs,key,xs,rs⟩=33 from by rw [HT0.out,HI0.out,HF.out];rfl);clear G;go_wp2_with (first|(go_at_call 93;refine(cY _ _ _ (HGo.out.now (ai (rr _ _) _)) HZK.out HNK.out).mono ?_;rintro e w5 ⟨rfl,D⟩;have Z:=rn (an (ai (rr z.heap.size z) (.cells #[.slice X1 rs[k].f0.length d1, .string rs[k].f1] 90)) D);have hz5:z.heap.size<w5.heap.size:=(by have:=D.size;simp at this;omega);obtain⟨hcc5,hff5⟩:=bj D;clear D)|(go_at_call 95;refine(b_ nm _ _ _ _ _ _ _ _ _ _ _ _ _ _ rs[k].f0 _ _ (by omega) (Kd.C_below HLI.out Z.out) b3 HCK.out).mono ?_;rintro e w6 ⟨rfl,Y⟩;have HB6:=rn (an Z.out Y);have hz6:z.heap.size<w6.heap.size:=rv hz5 Y.size;clear Y));go_ret;exact⟨by rw [X.out];rfl,an HBw.out HB6.out⟩
     |true=>
      have HCK:=rn hck;have G:cU cs.length rs k=0:=(by unfold cU;rw [hx];simp only [hnb,hck];rfl);have HM:=rn (cO _ _ HK.out G);clear G hnb hck hx;go_wp2_with (first|(go_at_call 93;refine(cY _ _ _ (HGo.out.now (ai (rr _ _) _)) HZK.out HNK.out).mono ?_;rintro e w5 ⟨rfl,D⟩;have Z:=rn (an (ai (rr z.heap.size z) (.cells #[.slice X1 rs[k].f0.length d1, .string rs[k].f1] 90)) D);have hz5:z.heap.size<w5.heap.size:=(by have:=D.size;simp at this;omega);obtain⟨hcc5,hff5⟩:=bj D;clear D)|(go_at_call 95;refine(b_ nm _ _ _ _ _ _ _ _ _ _ _ _ _ _ rs[k].f0 _ _ (by omega) (Kd.C_below HLI.out Z.out) b3 HCK.out).mono ?_;rintro e w6 ⟨rfl,Y⟩;have HB6:=rn (an Z.out Y);have hz6:z.heap.size<w6.heap.size:=rv hz5 Y.size;clear Y));have HBE:=rn (an HBk.out HB6.out);go_roundw;case rel=>exact⟨k+1,by omega,by go_num,HM,HBE⟩
      case measure=>simp [intOf];omega
    ·have hkl:k=rs.length:=by omega
     subst hkl;have X:=rn (show bh ⟨nm,cs,key,xs,rs⟩=0 from by rw [HT0.out,HI0.out,dE (cU cs.length rs) rs.length HK.out];rfl);go_wp2;go_ret;exact⟨by rw [X.out];rfl,HBw.out⟩
theorem dd(s:ByteArray)(b:Bool)(w:World)(q:GT w)(r:s.size≤9223372036854775807)(h:db s=b):Calls Tryz.prog 58 #[.string s] w fun e y=>e= .returned (.bool b)∧Below w.heap.size w y:=by
 subst h;exact fQ s w q r
theorem ec(nm:ByteArray)(A1 A2 A3 A4 A:Option Addr)(q c1 r c2 y c3 z c4 c:Nat)(l:List Int)(b:Bool)(w:World)(G:q≤9223372036854775807)(hr:(Kd.int .i64).C w A l.length l)(D:l.length≤c)(h:cK q l=b):
 Calls Tryz.prog 60 #[.agg #[.string nm, .slice A1 q c1, .slice A2 r c2, .slice A3 y c3, .slice A4 z c4], .slice A l.length c] w fun e J=>e= .returned (.bool b)∧Below w.heap.size w J:=by
 subst h;exact oy nm A1 A2 A3 A4 A q c1 r c2 y c3 z c4 c l w G hr D
theorem dU(nm:ByteArray)(A1 A2 A3 A4:Option Addr)(c1 q c2 y c3 z c4:Nat)(cs:List S86)(r:Int)(w:World)(D:GT w)(hr:k86.C w A1 cs.length cs)
 (G:∀x∈cs,x.f0.size≤9223372036854775807∧x.f3.f3.size≤9223372036854775807)(h:cC cs=r):
 Calls Tryz.prog 59 #[.agg #[.string nm, .slice A1 cs.length c1, .slice A2 q c2, .slice A3 y c3, .slice A4 z c4]] w fun e J=>e= .returned (.int .i64 r)∧Below w.heap.size w J:=by
 subst h;exact kQ nm A1 A2 A3 A4 c1 q c2 y c3 z c4 cs w D hr G
set_option maxHeartbeats 4000000 in
set_option maxRecDepth 100000 in
theorem iN(nm:ByteArray)(A1 A2 A3 A4:Option Addr)(q c1 G c2 c3 J c4:Nat)(xs:List S88)(r:Int)(w:World)(hG:GT w)(hn1:q≤9223372036854775807)(hr:k88.C w A3 xs.length xs)
 (hz:∀x∈xs,x.f0.size≤9223372036854775807)(h:cn (bZ q xs) xs.length=r):
 Calls Tryz.prog 61 #[.agg #[.string nm, .slice A1 q c1, .slice A2 G c2, .slice A3 xs.length c3, .slice A4 J c4]] w fun e w'=>e= .returned (.int .i64 r)∧Below w.heap.size w w':=by
 subst h;have hmx:=Kd.C_max hr;have HR:=rn hr;have HG:=rn hG;have HZ:=rn hz;have HX:=rn (show(w.alloc (.cells #[.string nm, .slice A1 q c1, .slice A2 G c2, .slice A3 xs.length c3, .slice A4 J c4] 48)).cell? ⟨w.heap.size,3,none⟩=some (.slice A3 xs.length c3)from(ab (rP w _) 3).trans rfl);have E0:=rn (show(w.alloc (.cells #[.string nm, .slice A1 q c1, .slice A2 G c2, .slice A3 xs.length c3, .slice A4 J c4] 48)).cell? ⟨w.heap.size,0,none⟩=some (.string nm)from(ab (rP w _) 0).trans rfl);have E1:=rn (show(w.alloc (.cells #[.string nm, .slice A1 q c1, .slice A2 G c2, .slice A3 xs.length c3, .slice A4 J c4] 48)).cell? ⟨w.heap.size,1,none⟩=some (.slice A1 q c1)from(ab (rP w _) 1).trans rfl);have E2:=rn (show(w.alloc (.cells #[.string nm, .slice A1 q c1, .slice A2 G c2, .slice A3 xs.length c3, .slice A4 J c4] 48)).cell? ⟨w.heap.size,2,none⟩=some (.slice A2 G c2)from(ab (rP w _) 2).trans rfl);have E4:=rn (show(w.alloc (.cells #[.string nm, .slice A1 q c1, .slice A2 G c2, .slice A3 xs.length c3, .slice A4 J c4] 48)).cell? ⟨w.heap.size,4,none⟩=some (.slice A4 J c4)from(ab (rP w _) 4).trans rfl);have HB0:=rn (ai (rr w.heap.size w) (.cells #[.string nm, .slice A1 q c1, .slice A2 G c2, .slice A3 xs.length c3, .slice A4 J c4] 48));clear hr hG hz;have hu:=Tryz.underlying88;have hu48:=Tryz.underlying48;go_enter Tryz.func61,Tryz.ntmps61;go_wp2;obtain⟨W0,hW0⟩:∃W0:World,W0=w.alloc (.cells #[.string nm, .slice A1 q c1, .slice A2 G c2, .slice A3 xs.length c3, .slice A4 J c4] 48):=⟨_,rfl⟩;rw [←hW0]at HX HB0 E0 E1 E2 E4⊢;have HS:=rn (show w.heap.size<W0.heap.size from by rw [hW0];simp);clear hW0;go_loopw [3] (fun i wr=>∃k:Nat,k≤xs.length∧i= .int .i64 k∧Hid (e7 (bZ q xs) k=true)∧Hid (Below W0.heap.size W0 wr)) (fun i _=>xs.length-(intOf i).toNat);case atStart=>exact⟨0,rR _,rfl,rn (dG _),rn (rr _ _)⟩
 case round=>
  obtain⟨X,rfl⟩:∃X:World,X=wr:=⟨_,rfl⟩;obtain⟨k,hk,rfl,HK,U⟩:=hrel;have hcx:=aj U.out HX.out;have hsz:w.heap.size<X.heap.size:=by have:=HS.out;have:=U.out.size;omega
  by_cases av:k<xs.length
  ·have hx:xs.getD k z88=xs[k]:=by simp [List.getD_eq_getElem?_getD,List.getElem?_eq_getElem av]
   have HXX:=rn hx;clear hx;have HB1:=rn (an HB0.out U.out);obtain⟨ad,X1,d1,rfl,b0,b1,b2,b3,b4⟩:=mu (Kd.C_below HR.out HB1.out) k av;have HLI:=rn b4;clear b4;have hm:=HZ.out _ (rL av);have HGr:=rn (HG.out.now HB1.out);cases hnb:db xs[k].f0 with
   |false=>
    have ap:=rn hnb;have z:bZ q xs k=30:=(by unfold bZ;rw [HXX.out,hnb];rfl);have Z:=rn (show cn (bZ q xs) xs.length=30 from(bO (bZ q xs) xs.length k av HK.out (by rw [z];decide)).trans z);clear z;go_wp2_with (go_at_call 58;refine(dd _ _ _ (HGr.out.now (ai (rr _ _) _)) hm ap.out).mono ?_;rintro e D ⟨rfl,V⟩;have Y:=rn V;have hz2:X.heap.size<D.heap.size:=(by have:=V.size;simp at this;omega);obtain⟨hcc2,hff2⟩:=bj V;clear V);go_ret;exact⟨by rw [Z.out];rfl,an HB1.out (an (ai (rr _ _) _) Y.out)⟩
   |true=>
   have ap:=rn hnb;go_wp2_with (go_at_call 58;refine(dd _ _ _ (HGr.out.now (ai (rr _ _) _)) hm ap.out).mono ?_;rintro e D ⟨rfl,V⟩;have Y:=rn V;have hz2:X.heap.size<D.heap.size:=(by have:=V.size;simp at this;omega);obtain⟨hcc2,hff2⟩:=bj V;clear V);have HBi:=rn (an HB1.out (an (ai (rr _ _) (.cells #[.string xs[k].f0, .slice X1 xs[k].f1.length d1, .bool xs[k].f2] 88)) Y.out));have am:=rn (an (ai (rr X.heap.size X) (.cells #[.string xs[k].f0, .slice X1 xs[k].f1.length d1, .bool xs[k].f2] 88)) Y.out);have g0:=rn (show D.cell? ⟨X.heap.size,0,none⟩=some (.string xs[k].f0)from aj Y.out ((ab (rP _ _) 0).trans rfl));have g1:=rn (show D.cell? ⟨X.heap.size,1,none⟩=some (.slice X1 xs[k].f1.length d1)from aj Y.out ((ab (rP _ _) 1).trans rfl));have gx:=rn (show D.cell? ⟨w.heap.size,3,none⟩=some (.slice (some ad) xs.length c3)from aj am.out hcx);have e0:=rn (show D.cell? ⟨w.heap.size,0,none⟩=some (.string nm)from aj am.out (aj U.out E0.out));have e1:=rn (show D.cell? ⟨w.heap.size,1,none⟩=some (.slice A1 q c1)from aj am.out (aj U.out E1.out));have e2:=rn (show D.cell? ⟨w.heap.size,2,none⟩=some (.slice A2 G c2)from aj am.out (aj U.out E2.out));have e4:=rn (show D.cell? ⟨w.heap.size,4,none⟩=some (.slice A4 J c4)from aj am.out (aj U.out E4.out));have HBo:=rn (an U.out (an (ai (rr _ _) (.cells #[.string xs[k].f0, .slice X1 xs[k].f1.length d1, .bool xs[k].f2] 88)) Y.out));clear hcc2 hff2 b0 b1 b2 hcx hnb;go_loopw [5] (fun i wr=>∃j:Nat,j≤k∧i= .int .i64 j∧Hid ((xs.take j).any (fun x=>x.f0.toList==xs[k].f0.toList)=false)∧Hid (Below D.heap.size D wr)) (fun i _=>k-(intOf i).toNat);case atStart=>exact⟨0,rR _,rfl,rn (by simp),rn (rr _ _)⟩
   case round=>
    obtain⟨j,hj,rfl,HJ,y⟩:=hrel;by_cases hjl:j<k
    ·obtain⟨ad',X2,d2,he,y0,y1,y2,y3,y4⟩:=mu (Kd.C_below HR.out (an HBi.out y.out)) j (by omega)
     obtain rfl:ad=ad':=(by injection he);clear he y1 y2 y3 y4;have hgx:=aj y.out gx.out;have hg0:=aj y.out g0.out;have hj0:(0:Int)≤(j:Int):=(by omega);have hj1:(j:Int)<(xs.length:Int):=(by omega);cases he:(xs[j].f0.toList==xs[k].f0.toList)with
     |true=>
      have z:bZ q xs k=31:=by
       unfold bZ;rw [HXX.out,ap.out];have:(xs.take k).any (fun x=>x.f0.toList==xs[k].f0.toList)=true:=by
        rw [sb];exact⟨xs[j],by rw [List.mem_take_iff_getElem];exact⟨j,by omega,rfl⟩,he⟩
       rw [this];rfl
      have Z:=rn (show cn (bZ q xs) xs.length=31 from(bO (bZ q xs) xs.length k av HK.out (by rw [z];decide)).trans z);clear z;go_wp2;go_quiet (fail);go_wp2;go_ret;exact⟨by rw [Z.out];rfl,aq (an HBi.out y.out) _⟩
     |false=>
      have HM:=rn (show(xs.take (j+1)).any (fun x=>x.f0.toList==xs[k].f0.toList)=false from by
       rw [rM (by omega),se,HJ.out];simp [he])
      go_wp2;go_quiet (fail);go_wp2;have HBE:=rn (aq y.out nq);go_roundw;case rel=>exact⟨j+1,by omega,by go_num,HM,HBE⟩
      case measure=>simp [intOf];omega
    ·have hjk:j=k:=by omega
     subst hjk;have htw:=HJ.out;have q1:=aj y.out g1.out;have p0:=aj y.out e0.out;have p1:=aj y.out e1.out;have p2:=aj y.out e2.out;have p3:=aj y.out gx.out;have p4:=aj y.out e4.out;have HBjj:=rn (an am.out y.out);cases hck:cK q xs[j].f1 with
     |false=>
      have HCK:=rn hck;have z:bZ q xs j=33:=(by unfold bZ;rw [HXX.out];simp only [ap.out,htw,hck];rfl);have Z:=rn (show cn (bZ q xs) xs.length=33 from(bO (bZ q xs) xs.length j av HK.out (by rw [z];decide)).trans z);clear z htw;go_wp2_with (go_at_call 60;refine(ec nm _ _ _ _ _ _ _ _ _ _ _ _ _ _ xs[j].f1 _ _ hn1 (Kd.C_below HLI.out HBjj.out) b3 HCK.out).mono ?_;rintro e w3 ⟨rfl,hb3⟩;have HB4:=rn hb3;clear hb3);go_ret;exact⟨by rw [Z.out];rfl,an HBi.out (an y.out HB4.out)⟩
     |true=>
      have HCK:=rn hck;have z:bZ q xs j=0:=(by unfold bZ;rw [HXX.out];simp only [ap.out,htw,hck];rfl);have HM:=rn (cO _ _ HK.out z);clear z htw;go_wp2_with (go_at_call 60;refine(ec nm _ _ _ _ _ _ _ _ _ _ _ _ _ _ xs[j].f1 _ _ hn1 (Kd.C_below HLI.out HBjj.out) b3 HCK.out).mono ?_;rintro e w3 ⟨rfl,hb3⟩;have HB4:=rn hb3;clear hb3);have HBE:=rn (an HBo.out (an y.out HB4.out));go_roundw;case rel=>exact⟨j+1,by omega,by go_num,HM,HBE⟩
      case measure=>simp [intOf];omega
  ·have hkl:k=xs.length:=by omega
   subst hkl;have Z:=rn (dE (bZ q xs) xs.length HK.out);go_wp2;go_ret;exact⟨by rw [Z.out];rfl,an HB0.out U.out⟩
end Go.Proofs.YtiphlfpainoeiaaGreatDoor
