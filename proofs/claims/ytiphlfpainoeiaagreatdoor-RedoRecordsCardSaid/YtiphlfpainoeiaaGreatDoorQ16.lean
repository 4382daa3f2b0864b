/- Part 16 of the proof that redoRecords_card : Rows.RedoRecordsCardSaid: the record of any commit is what the document says, for every tables and commit that the guards of the statement let in. Short names and spellings throughout: a claim may hold 1,500,000 bytes. -/
import Derived.Deep.Slices
import Derived.SizedLaws
import Derived.Test.YtiphlfpainoeiaaGreatDoorTie
import Derived.Test.YtiphlfpainoeiaaGreatDoorCards
import Derived.Deep.DeepHandedRow
import Derived.ProofKit
import Derived.Lib.LaidU8T
import Derived.Shelf.Vars
import Derived.Lay
import Derived.SevenTiedAt
import Derived.Test.YtiphlfpainoeiaaGreatDoorQ15
set_option linter.unusedVariables false
set_option linter.unusedSimpArgs false
namespace Go.Proofs.YtiphlfpainoeiaaGreatDoor
open Go.RowKit Go.Proofs.YtiphlfpainoeiaaGreatDoorW.PrintWords L
theorem nQ{t:S48}(h:mz t)(i:Nat)(hi:i<t.f1.length):1≤(bx t.f1 (i:Int)).f1∧(bx t.f1 (i:Int)).f1≤5:=by
 have:=dT _ _ h.cols i hi;unfold cd at this;split at this;·omega
 split at this;·omega
 split at this;·omega
 rename_i q;have e:bx t.f1 (i:Int)=t.f1.getD i z86:=rfl;rw [e];omega
def ma(vs:List S84)(t:S48):Nat→Nat→Bool
 |0,_=>true
 |d+1,i=>if(af vs (i:Int)).f0=(bx t.f1 (rd t.f2 (i:Int))).f1 then ma vs t d (i+1)else false
theorem np{t:S48}(h:mz t)(i:Nat)(hi:i<t.f2.length):0≤rd t.f2 (i:Int)∧rd t.f2 (i:Int)<t.f1.length:=by
 have:=ea _ _ h.key (rd t.f2 (i:Int)) (by rw [rdv t.f2 i hi];exact rL _);omega
theorem mf{t:S48}(h:mz t)(vs:List S84)(V:vs.length=t.f2.length):∀(d i k:Nat),i+d=vs.length→d<k→bK.l0 k vs vs.length i t.f0 t.f1 t.f2 t.f3 t.f4=some (ma vs t d i):=by
 have G:=du h.key;intro d
 induction d with
 |zero=>
  intro i k hi z;obtain⟨k,rfl⟩:∃m,k=m+1:=⟨k-1,by omega⟩;rw [bK.l0,rq (by omega)];rfl
 |succ d D=>
  intro i k hi z;obtain⟨k,rfl⟩:∃m,k=m+1:=⟨k-1,by omega⟩;have U:=np h i (by omega);obtain⟨j,y⟩:∃j:Nat,rd t.f2 (i:Int)=j:=⟨(rd t.f2 (i:Int)).toNat,by omega⟩;have J:=nQ h j (by omega);rw [bK.l0,rp (by omega),rp (by omega),rp (by omega),ma,y];by_cases r:(af vs (i:Int)).f0=0;·rw [rp r,rq (by omega)]
  ·rw [rq r,rp (by omega),rp (by omega),rp (by omega)]
   by_cases q:(af vs (i:Int)).f0=(bx t.f1 (j:Int)).f1;·rw [rp q,rp q,w1 i (by omega),D (i+1) k (by omega) (by omega)]
   ·rw [rq q,rq q]
theorem kF{t:S48}(h:mz t)(vs:List S84)(G:vs.length=t.f2.length):∀(d i k:Nat),i+d=vs.length→d<k→aY.l0 k vs i t.f0 t.f1 t.f2 t.f3 t.f4=some (ma vs t d i):=by
 have z:=du h.key;intro d
 induction d with
 |zero=>
  intro i k hi r;obtain⟨k,rfl⟩:∃m,k=m+1:=⟨k-1,by omega⟩;rw [aY.l0,rq (by omega)];rfl
 |succ d y=>
  intro i k hi r;obtain⟨k,rfl⟩:∃m,k=m+1:=⟨k-1,by omega⟩;have D:=np h i (by omega);rw [aY.l0,rp (by omega),rp (by omega),rp (by omega),rp (by omega),rp (by omega),ma];by_cases q:(af vs (i:Int)).f0=(bx t.f1 (rd t.f2 (i:Int))).f1;·rw [rp q,rp q,w1 i (by omega),y (i+1) k (by omega) (by omega)]
  ·rw [rq q,rq q]
theorem lq{α:Type}{F:Nat→Option α}(h:∀k,LeO (F k) (F (k+1))){a b:Nat}(q:a≤b){r:α}(hr:F a=some r):F b=some r:=by
 obtain⟨d,rfl⟩:∃d,b=a+d:=⟨b-a,by omega⟩;clear q
 induction d with
 |zero=>exact hr
 |succ d y=>exact h _ _ y
theorem me{t:S48}(h:mz t)(s:ByteArray):∃b,(∀k,100000≤k→bK.f k t.f0 t.f1 t.f2 t.f3 t.f4 s=some b)∧(∀k,100000≤k→aY.f k t.f0 t.f1 t.f2 t.f3 t.f4 s=some b)∧(b=true→s.size≤1024):=by
 have V:=du h.key;obtain⟨r,z,J⟩:=jV 100000 (by omega) s;have f1:∀k,100000≤k→bm.f k s=some r:=fun k q=>lq (F:=fun k=>bm.f k s) (bm.mono s) q z
 have f2:∀k,100000≤k→aV.f k s=some r:=fun k q=>lq (F:=fun k=>aV.f k s) (aV.mono s) q J
 have U:r.2=0→s.size≤1024:=by
  intro y;unfold bm.f at z;split at z;·rw [Option.some.injEq]at z;rw [←z]at y;simp at y
  ·omega
 by_cases y:r.2=0
 ·by_cases D:r.1.length=t.f2.length
  ·refine⟨ma r.1 t r.1.length 0,?_,?_,fun _=>U y⟩
   ·intro k q
    unfold bK.f;rw [f1 k q,rG,rp y];obtain⟨k,rfl⟩:∃m,k=m+1:=⟨k-1,by omega⟩;rw [bK.j0,rq (by simp [D])];exact mf h r.1 D r.1.length 0 k (by omega) (by omega)
   ·intro k q
    unfold aY.f;rw [f2 k q,rG,rp y];obtain⟨k,rfl⟩:∃m,k=m+1:=⟨k-1,by omega⟩;rw [aY.j0,rq (by simp [D])];exact kF h r.1 D r.1.length 0 k (by omega) (by omega)
  ·have G:((r.1.length:Int) !=(t.f2.length:Int))=true:=by rw [rH];omega
   refine⟨false,?_,?_,fun e=>by cases e⟩
   ·intro k q
    unfold bK.f;rw [f1 k q,rG,rp y];obtain⟨k,rfl⟩:∃m,k=m+1:=⟨k-1,by omega⟩;rw [bK.j0,rp G]
   ·intro k q
    unfold aY.f;rw [f2 k q,rG,rp y];obtain⟨k,rfl⟩:∃m,k=m+1:=⟨k-1,by omega⟩;rw [aY.j0,rp G]
 ·refine⟨false,?_,?_,fun e=>by cases e⟩
  ·intro k q
   unfold bK.f;rw [f1 k q,rG,rq y];obtain⟨k,rfl⟩:∃m,k=m+1:=⟨k-1,by omega⟩;rw [bK.j0,rp rfl]
  ·intro k q
   unfold aY.f;rw [f2 k q,rG,rq y];obtain⟨k,rfl⟩:∃m,k=m+1:=⟨k-1,by omega⟩;rw [aY.j0,rp rfl]
structure oa (l0:List S48) (x:S52):Prop where
 lo:0≤x.f0
 hi:x.f0<l0.length
 key:x.f1.size≤1024
structure RC (x:S52):Prop where
 sz:x.f1.size≤140737488355328
 vs:∀v∈x.f3,RV v
def l6(p c:S52):Bool:=if c.f0<p.f0 then false else if c.f0=p.f0 then Op.bytesLess p.f1.toList c.f1.toList else true
theorem lb(l0:List S48)(i:Int)(h:0≤i)(h1:i<l0.length):ax l0 i∈l0:=by
 unfold ax;have:i.toNat<l0.length:=by omega
 simp only [List.getD_eq_getElem?_getD,List.getElem?_eq_getElem this,Option.getD_some];exact rL _
theorem mm(l0:List S48)(hok:∀t∈l0,df t)(hch:∀t∈l0,bh t=0)(x:S52)(J:RC x):∃b,(∀k,110000≤k→bk.f k l0 x.f0 x.f1 x.f2 x.f3=some b)∧(b=true→oa l0 x)∧
 (∀(k:Nat) (i st:Int) (l1:List S52),110000≤k→aw.j2 (k+1) l0 i (decide (x.f0<0∨x.f0≥(l0.length:Int))) st l1 x.f0 x.f1 x.f2 x.f3=(if x.f2=true∧0≤x.f0∧x.f0<l0.length then aw.j3 k l0 i (!b) st l1 x.f0 x.f1 x.f2 x.f3 else if 0≤x.f0∧x.f0<l0.length then aw.j4 k l0 i (!b) st l1 x.f0 x.f1 x.f2 x.f3 else some false)∧(¬(0≤x.f0∧x.f0<l0.length)→b=false)):=by
 by_cases hr:0≤x.f0∧x.f0<l0.length
 case neg=>
  refine⟨false,?_,fun e=>(by cases e),?_⟩
  ·intro k q
   obtain⟨k,rfl⟩:∃m,k=m+1:=⟨k-1,by omega⟩;unfold bk.f;have r:bk.j0 (k+1) l0 true x.f0 x.f1 x.f2 x.f3=some false:=(by rw [bk.j0,rp rfl]);by_cases hn:x.f0<0;·rw [rp hn,r]
   ·rw [rq hn,ru (by omega),r]
  ·intro k i st l1 q
   rw [aw.j2,ru (by omega),rp rfl,rq (fun h=>hr h.2),rq hr];exact⟨rfl,fun _=>rfl⟩
 case pos=>
 have U:decide (x.f0<0∨x.f0≥(l0.length:Int))=false:=rC (by omega);obtain⟨t,G⟩:∃t,ax l0 x.f0=t:=⟨_,rfl⟩;have X:t∈l0:=by rw [←G];exact lb l0 _ hr.1 hr.2
 have ho:=hok t X;have hf:=kO (hch t X);have r:∀k,bk.f k l0 x.f0 x.f1 x.f2 x.f3=bk.j0 k l0 false x.f0 x.f1 x.f2 x.f3:=by
  intro k;unfold bk.f;rw [rq (by omega),rC (by omega)]
 cases y:x.f2 with
 |true=>
  by_cases hl:x.f3.length=0
  ·obtain⟨b,g1,Z,g3⟩:=me hf x.f1
   refine⟨b,?_,fun e=>⟨hr.1,hr.2,g3 e⟩,?_⟩
   ·intro k q
    rw [←y,r];obtain⟨k,rfl⟩:∃m,k=m+1:=⟨k-1,by omega⟩;rw [bk.j0,rq (by decide),rp hr.1,rp hr.2,rp y,rp (by omega),G,g1 k (by omega)];rfl
   ·intro k i st l1 q
    rw [aw.j2,U,rq (by decide),rp hr.1,rp hr.2,rp rfl,rq (by omega),G,Z k (by omega),rG,rp ⟨rfl,hr⟩];exact⟨rfl,fun h=>absurd hr h⟩
  ·refine⟨false,?_,fun e=>(by cases e),?_⟩
   ·intro k q
    rw [←y,r];obtain⟨k,rfl⟩:∃m,k=m+1:=⟨k-1,by omega⟩;rw [bk.j0,rq (by decide),rp hr.1,rp hr.2,rp y,rq (by omega)]
   ·intro k i st l1 q
    rw [aw.j2,U,rq (by decide),rp hr.1,rp hr.2,rp rfl,rp (by omega),rp ⟨rfl,hr⟩];exact⟨rfl,fun h=>absurd hr h⟩
 |false=>
  have hrow:=fun k (q:200≤k)=>fA k q (row:=x.f3) ho J.vs
  have hrow2:=fun k (q:200≤k)=>eG k q (row:=x.f3) ho J.vs
  have hkey:=fun k (q:70000≤k)=>ko k q (row:=x.f3) ho J.vs
  have hkey2:=fun k (q:70000≤k)=>kr k q (row:=x.f3) ho J.vs
  have hb:∀k,110000≤k→bk.f k l0 x.f0 x.f1 false x.f3=some (if(iB t x.f3).2=0 then if(jO t x.f3).2=0 then((jO t x.f3).1.toList==x.f1.toList)else false else false):=by
   intro k q;have:=r k;rw [y]at this;rw [this];obtain⟨k,rfl⟩:∃m,k=m+1:=⟨k-1,by omega⟩;rw [bk.j0,rq (by decide),rp hr.1,rp hr.2,rq (by decide),G,hrow k (by omega),rG,hkey k (by omega),rG];split;·split<;>rfl
   ·rfl
  refine⟨_,hb,?_,?_⟩
  ·intro e
   refine⟨hr.1,hr.2,?_⟩;split at e
   ·split at e
    ·rename_i V
     have Y:=hD (rI.1 e);rw [←Y];unfold jO at V⊢;split
     ·rename_i ha
      rw [rp ha]at V;obtain⟨s,D⟩:∃s,eD (ef x.f3 t.f2)=(s,0):=⟨(eD (ef x.f3 t.f2)).1,Prod.ext rfl V⟩;rw [D];unfold eD at D;split at D;·simp at D
      ·exact(lz _ _ _ D).2 (by simp)
     ·exact rR _
    ·cases e
   ·cases e
  ·intro k i st l1 q
   have hnt:¬(false=true∧0≤x.f0∧x.f0<(l0.length:Int)):=fun h=>by cases h.1
   rw [aw.j2,U,rq (by decide),rp hr.1,rp hr.2,rq (by decide),G,hkey2 k (by omega),rG,hrow2 k (by omega),rG,rq hnt,rp hr];refine⟨?_,fun h=>absurd hr h⟩;by_cases h1:(jO t x.f3).2=0
   ·by_cases z:(iB t x.f3).2=0
    ·simp only [if_pos h1,if_pos z];rfl
    ·simp only [if_pos h1,if_neg z];rfl
   ·by_cases z:(iB t x.f3).2=0
    ·simp only [if_neg h1,if_pos z];rfl
    ·simp only [if_neg h1,if_neg z];rfl
theorem qc(l0:List S48)(l1:List S52)(st:Int)(i k:Nat)(hi:i<l1.length)(z:l1.length≤65536)(b h:Bool)(x:S52)(hn:aw.l0 k l0 ((i+1:Nat):Int) st l1=some h):
 aw.j3 (k+1) l0 i (!b) st l1 x.f0 x.f1 x.f2 x.f3=some (if b=true then(if i=0 then h else if l6 (ah l1 ((i-1:Nat):Int)) x=true then h else false)else false):=by
 have y:wrap64 ((i:Int)-1)=((i:Int)-1):=by unfold wrap64;omega
 rw [aw.j3,w1 i (by omega),hn];cases b with
 |false=>rw [rp (show(!false)=true from rfl)];rfl
 |true=>
  rw [rq (by decide),rp rfl];by_cases q:i=0;·rw [rq (by omega),rp q]
  ·rw [rp (by omega),rq q,y,rp (by omega),rp (by omega),show(i:Int)-1=((i-1:Nat):Int)from by omega]
   unfold l6;by_cases h1:x.f0<(ah l1 ((i-1:Nat):Int)).f0;·rw [rp (by omega),rp h1];rfl
   ·rw [rq (by omega),rq h1]
    by_cases r:x.f0=(ah l1 ((i-1:Nat):Int)).f0
    ·rw [rp (by omega),rp r]
     cases Op.bytesLess (ah l1 ((i-1:Nat):Int)).f1.toList x.f1.toList<;>rfl
    ·rw [rq (by omega),rq r];rfl
theorem qb(l0:List S48)(l1:List S52)(st:Int)(i k:Nat)(hi:i<l1.length)(z:l1.length≤65536)(b h:Bool)(x:S52)(hn:aw.l0 k l0 ((i+1:Nat):Int) st l1=some h):
 aw.j4 (k+1) l0 i (!b) st l1 x.f0 x.f1 x.f2 x.f3=some (if b=true then(if i=0 then h else if l6 (ah l1 ((i-1:Nat):Int)) x=true then h else false)else false):=by
 have y:wrap64 ((i:Int)-1)=((i:Int)-1):=by unfold wrap64;omega
 rw [aw.j4,w1 i (by omega),hn];cases b with
 |false=>rw [rp (show(!false)=true from rfl)];rfl
 |true=>
  rw [rq (by decide),rp rfl];by_cases q:i=0;·rw [rq (by omega),rp q]
  ·rw [rp (by omega),rq q,y,rp (by omega),rp (by omega),show(i:Int)-1=((i-1:Nat):Int)from by omega]
   unfold l6;by_cases h1:x.f0<(ah l1 ((i-1:Nat):Int)).f0;·rw [rp (by omega),rp h1];rfl
   ·rw [rq (by omega),rq h1]
    by_cases r:x.f0=(ah l1 ((i-1:Nat):Int)).f0
    ·rw [rp (by omega),rp r]
     cases Op.bytesLess (ah l1 ((i-1:Nat):Int)).f1.toList x.f1.toList<;>rfl
    ·rw [rq (by omega),rq r];rfl
theorem ni(l0:List S48)(l1:List S52)(st:Int)(av:∀t∈l0,df t)(Y:∀t∈l0,bh t=0)(hx:∀x∈l1,RC x)(U:l1.length≤65536):∀(d i:Nat),i+d=l1.length→∃b,(∀k,120000+d<k→bE.l0 k l0 l1 l1.length i st l1=some b)∧(∀k,120000+4*d<k→aw.l0 k l0 i st l1=some b)∧(b=true→∀j:Nat,i≤j→j<l1.length→oa l0 (ah l1 (j:Int))):=by
 intro d
 induction d with
 |zero=>
  intro i hi;refine⟨true,?_,?_,fun _ j h1 q=>by omega⟩
  ·intro k G
   obtain⟨k,rfl⟩:∃m,k=m+1:=⟨k-1,by omega⟩;rw [bE.l0,rq (by omega)]
  ·intro k G
   obtain⟨k,rfl⟩:∃m,k=m+1:=⟨k-1,by omega⟩;rw [aw.l0,rq (by omega)]
 |succ d ih=>
  intro i hi;obtain⟨r,n1,n2,n3⟩:=ih (i+1) (by omega);obtain⟨x,D⟩:∃x,ah l1 (i:Int)=x:=⟨_,rfl⟩;have hxm:x∈l1:=by
   rw [←D];unfold ah;rw [sm,List.getD_eq_getElem?_getD,r9 (by omega),Option.getD_some];exact rL _
  obtain⟨b,g1,V,g3⟩:=mm l0 av Y x (hx x hxm);refine⟨if b=true then(if i=0 then r else if l6 (ah l1 ((i-1:Nat):Int)) x=true then r else false)else false,?_,?_,?_⟩
  ·intro k G
   obtain⟨k,rfl⟩:∃m,k=m+1:=⟨k-1,by omega⟩;have hw:wrap64 ((i:Int)-1)=((i:Int)-1):=(by unfold wrap64;omega);rw [bE.l0,rp (by omega),rp (by omega),rp (by omega),D,g1 k (by omega),rG,w1 i (by omega),n1 k (by omega)];cases b with
   |false=>rw [rq (by decide),rq (by decide)]
   |true=>
    rw [rp rfl,rp rfl];by_cases J:i=0;·rw [rq (by omega),rp J]
    ·rw [rp (by omega),rq J,hw,rp (by omega),rp (by omega),show(i:Int)-1=((i-1:Nat):Int)from by omega]
     unfold l6;by_cases h1:x.f0<(ah l1 ((i-1:Nat):Int)).f0;·rw [rp h1,rp h1];rfl
     ·rw [rq h1,rq h1]
      by_cases q:x.f0=(ah l1 ((i-1:Nat):Int)).f0
      ·rw [rp q,rp q]
       cases Op.bytesLess (ah l1 ((i-1:Nat):Int)).f1.toList x.f1.toList<;>rfl
      ·rw [rq q,rq q];rfl
  ·intro k G
   obtain⟨k,rfl⟩:∃m,k=m+3:=⟨k-3,by omega⟩;have hn:=n2 k (by omega);obtain⟨g4,X⟩:=g3 (k+1) i st l1 (by omega);have e:aw.l0 (k+3) l0 i st l1=aw.j2 (k+2) l0 i (decide (x.f0<0∨x.f0≥(l0.length:Int))) st l1 x.f0 x.f1 x.f2 x.f3:=by
    rw [aw.l0,rp (by omega),rp (by omega),D];by_cases z:x.f0<0;·rw [rp z,ru (Or.inl z)]
    ·rw [rq z]
     congr 1;by_cases y:x.f0≥(l0.length:Int);·rw [ru y,ru (Or.inr y)]
     ·rw [rC y,rC (fun h=>h.elim z y)]
   rw [e,g4,qc l0 l1 st i k (by omega) U b r x hn,qb l0 l1 st i k (by omega) U b r x hn];by_cases hr:0≤x.f0∧x.f0<l0.length
   ·rw [rp hr]
    split<;>rfl
   ·rw [rq hr,rq (fun h=>hr h.2),X hr];rfl
  ·intro e j hj1 Z
   cases b with
   |false=>cases e
   |true=>
    have ap:r=true:=by
     rw [rp rfl]at e;split at e;·exact e
     ·split at e
      ·exact e
      ·cases e
    by_cases am:j=i;·rw [am,D];exact V rfl
    ·exact n3 ap j (by omega) Z
theorem nh(l0:List S48)(l1:List S52)(st:Int)(U:∀t∈l0,df t)(J:∀t∈l0,bh t=0)(V:∀x∈l1,RC x):∃b,(∀k,400000≤k→bE.f k l0 st l1=some b)∧(∀k,400000≤k→aw.f k l0 st l1=some b)∧(b=true→(1≤st∧st≤4611686018427387904)∧l1.length≤65536∧∀x∈l1,oa l0 x):=by
 have y:∀k,400000≤k→bE.j0 k l0 true st l1=some false:=fun k h=>by
  obtain⟨k,rfl⟩:∃m,k=m+1:=⟨k-1,by omega⟩;rw [bE.j0,rp rfl]
 have z:∀k,400000≤k→aw.j0 k l0 true st l1=some false:=fun k h=>by
  obtain⟨k,rfl⟩:∃m,k=m+1:=⟨k-1,by omega⟩;rw [aw.j0,rp rfl]
 unfold bE.f aw.f;by_cases h1:st<1;·exact⟨false,fun k h=>by rw [rp h1,y k h],fun k h=>by rw [rp h1,z k h],fun e=>by cases e⟩
 by_cases q:st>4611686018427387904;·exact⟨false,fun k h=>by rw [rq h1,rp q,y k h],fun k h=>by rw [rq h1,rp q,z k h],fun e=>by cases e⟩
 by_cases r:(l1.length:Int)>65536;·exact⟨false,fun k h=>by rw [rq h1,rq q,ru r,y k h],fun k h=>by rw [rq h1,rq q,ru r,z k h],fun e=>by cases e⟩
 obtain⟨b,g1,G,g3⟩:=ni l0 l1 st U J V (by omega) l1.length 0 (by omega);refine⟨b,fun k h=>?_,fun k h=>?_,fun e=>⟨⟨by omega,by omega⟩,by omega,fun x X=>?_⟩⟩
 ·obtain⟨k,rfl⟩:∃m,k=m+1:=⟨k-1,by omega⟩
  rw [rq h1,rq q,rC r,bE.j0,rq (by decide)];exact g1 k (by omega)
 ·obtain⟨k,rfl⟩:∃m,k=m+1:=⟨k-1,by omega⟩
  rw [rq h1,rq q,rC r,aw.j0,rq (by decide)];exact G k (by omega)
 ·obtain⟨j,D,rfl⟩:=List.getElem_of_mem X
  have:=g3 e j (rR _) D;unfold ah at this;rw [sm,List.getD_eq_getElem?_getD,r9 D,Option.getD_some]at this;exact this
def hV(h:Int)(y:Bool)(B q r:List UInt8):ByteArray×Int:=
 if h≠0 then(⟨#[]⟩,h)else if y=false then(⟨#[]⟩,230)else if 67108864<B.length then(⟨#[]⟩,3)else(⟨(q++r++B).toArray⟩,0)
set_option maxHeartbeats 4000000 in
set_option maxRecDepth 100000 in
theorem mw(k:Nat)(Y:Int→List UInt8)(ct:ByteArray→List UInt8)(en:S52→ByteArray)(A0 A1:Option Addr)(c0 c1:Nat)(l0:List S48)(st:Int)(l1:List S52)(y:Int)(X:Bool)(B L1 L2:List UInt8)(s:ByteArray)(er:Int)(w:World)
 (hr0:Kd.C k48 w A0 l0.length l0)(V:l0.length≤c0)(hr1:Kd.C k52 w A1 l1.length l1)(hc1:l1.length≤c1)(hG:GT w)(hok:∀t∈l0,df t)
 (hbe:da l0=y)(hmay:y=0→bE.f k l0 st l1=some X)(hB:B=dL Y ct en st l1)
 (hst:y=0→X=true→bo.f k st=some ⟨(Y st).toArray⟩)(hln:y=0→X=true→bo.f k (l1.length:Int)=some ⟨(Y l1.length).toArray⟩)(hx:y=0→X=true→∀x∈l1,pX k Y ct en l0 x)(hz:y=0→X=true→B.length≤70368744177664)
 (hL1:y=0→X=true→B.length≤67108864→ca.f k (B.length:Int) 4=some ⟨L1.toArray⟩∧L1.length=4)(hL2:y=0→X=true→B.length≤67108864→ca.f k (Crc.sum (L1++B):Nat) 4=some ⟨L2.toArray⟩∧L2.length=4)
 (hv:hV y X B L1 L2=(s,er)):
 Calls Tryz.prog 5 #[.slice A0 l0.length c0, .agg #[.int .u64 st, .slice A1 l1.length c1]] w fun e w'=>e= .returned (.tuple #[.string s, .int .i64 er])∧Below w.heap.size w w':=by
 have J:=rn hr0;have HR1:=rn hr1;have G:=rn hG;have HO:=rn hok;have HE:=rn hbe;have Z:=rn hv;have r:=rn (ai (rr w.heap.size w) (.cells #[.int .u64 st, .slice A1 l1.length c1] 26));have HC:=rn (cl w (.cells #[.int .u64 st, .slice A1 l1.length c1] 26));clear hr0 hr1 hG hok hbe hv;have hu26:=Tryz.underlying26;by_cases hz0:y=0
 case neg=>
  have hd:(y !=0)=true:=by rw [rH];exact hz0
  obtain⟨rfl,rfl⟩:s=⟨#[]⟩∧er=y:=by have:=Z.out;rw [hV,rp hz0]at this;simp only [Prod.mk.injEq]at this;exact⟨this.1.symm,this.2.symm⟩
  clear hmay hB hst hln hx hz hL1 hL2 Z;go_enter Tryz.func5,Tryz.ntmps5;go_wp2_with (go_at_call 12;refine(jl _ _ l0 er _ (Kd.C_below J.out r.out) V (G.out.now r.out) HO.out HE.out).mono ?_;rintro e w1 ⟨p,rfl,h⟩;have q:=rn (an r.out h);clear h)
  go_ret2
  exact⟨rfl,q.out⟩
 subst hz0;have hmay:=hmay rfl;cases X with
 |false=>
  have HM:=rn hmay;obtain⟨rfl,rfl⟩:s=⟨#[]⟩∧er=230:=by have:=Z.out;rw [hV,rq (by simp),rp rfl]at this;simp only [Prod.mk.injEq]at this;exact⟨this.1.symm,this.2.symm⟩
  clear hmay hB hst hln hx hz hL1 hL2 Z;go_enter Tryz.func5,Tryz.ntmps5;go_wp2_with (first|(go_at_call 12;refine(jl _ _ l0 0 _ (Kd.C_below J.out r.out) V (G.out.now r.out) HO.out HE.out).mono ?_;rintro e w1 ⟨p,rfl,h⟩;have q:=rn (an r.out h);have D:=rn (aQ HC.out h);clear h;have hq0:w1.cell? ⟨w.heap.size,0,none⟩=some (.int .u64 st):=(ab D.out 0).trans rfl;have hq1:w1.cell? ⟨w.heap.size,1,none⟩=some (.slice A1 l1.length c1):=(ab D.out 1).trans rfl)|(go_at_call 13;refine(bE.calls k _ _ l0 st _ _ l1 false _ (Kd.C_below J.out q.out) V (Kd.C_below HR1.out q.out) hc1 (G.out.now q.out) HM.out).mono ?_;rintro e w2 ⟨rfl,h⟩;have z:=rn (an q.out h);clear h))
  go_ret2
  exact⟨rfl,z.out⟩
 |true=>
  have HM:=rn hmay;have HST:=rn (hst rfl rfl);have HLN:=rn (hln rfl rfl);have HX:=rn (hx rfl rfl);have hz:=hz rfl rfl;have hL1:=hL1 rfl rfl;have hL2:=hL2 rfl rfl;have HBB:=rn hB;have HZ:=rn (show(dL Y ct en st l1).length≤70368744177664 from hB▸hz);clear hmay hst hln hx hB;by_cases hlong:67108864<B.length
  ·have hsz:(⟨B.toArray⟩:ByteArray).size=B.length:=de B
   obtain⟨S,U⟩:∃S,(⟨B.toArray⟩:ByteArray)=S:=⟨_,rfl⟩;rw [U]at hsz;have hd:decide ((67108864:Int)<(S.size:Int))=true:=ru (by omega);have HS:=rn (show(⟨(dL Y ct en st l1).toArray⟩:ByteArray)=S from by rw [←HBB.out];exact U);obtain⟨rfl,rfl⟩:s=⟨#[]⟩∧er=3:=(by have:=Z.out;rw [hV,rq (by simp),rq (by simp),rp hlong]at this;simp only [Prod.mk.injEq]at this;exact⟨this.1.symm,this.2.symm⟩);clear U hsz hL1 hL2 Z;go_enter Tryz.func5,Tryz.ntmps5;go_wp2_with (first|(go_at_call 12;refine(jl _ _ l0 0 _ (Kd.C_below J.out r.out) V (G.out.now r.out) HO.out HE.out).mono ?_;rintro e w1 ⟨p,rfl,h⟩;have q:=rn (an r.out h);have D:=rn (aQ HC.out h);clear h;have hq0:w1.cell? ⟨w.heap.size,0,none⟩=some (.int .u64 st):=(ab D.out 0).trans rfl;have hq1:w1.cell? ⟨w.heap.size,1,none⟩=some (.slice A1 l1.length c1):=(ab D.out 1).trans rfl)|(go_at_call 13;refine(bE.calls k _ _ l0 st _ _ l1 true _ (Kd.C_below J.out q.out) V (Kd.C_below HR1.out q.out) hc1 (G.out.now q.out) HM.out).mono ?_;rintro e w2 ⟨rfl,h⟩;have z:=rn (an q.out h);have HC2:=rn (aQ D.out h);clear h;have hp0:w2.cell? ⟨w.heap.size,0,none⟩=some (.int .u64 st):=(ab HC2.out 0).trans rfl;have hp1:w2.cell? ⟨w.heap.size,1,none⟩=some (.slice A1 l1.length c1):=(ab HC2.out 1).trans rfl)|(go_at_call 14;refine(lF k Y ct en _ _ _ _ l0 st l1 _ (Kd.C_below J.out z.out) V (Kd.C_below HR1.out z.out) hc1 (G.out.now z.out) HST.out HLN.out HX.out HZ.out).mono ?_;rintro e w3 ⟨rfl,h⟩;rw [HS.out];have HB3:=rn (an z.out h);clear h))
   go_ret2
   exact⟨rfl,HB3.out⟩
  ·have hl1:=hL1 (by omega)
   have hl2:=hL2 (by omega);have hsz:(⟨B.toArray⟩:ByteArray).size=B.length:=de B;have hsz1:(⟨L1.toArray⟩:ByteArray).size=4:=(de L1).trans hl1.2;have hsz2:(⟨L2.toArray⟩:ByteArray).size=4:=(de L2).trans hl2.2;obtain⟨S,U⟩:∃S,(⟨B.toArray⟩:ByteArray)=S:=⟨_,rfl⟩;obtain⟨S1,hS1⟩:∃S,(⟨L1.toArray⟩:ByteArray)=S:=⟨_,rfl⟩;obtain⟨S2,hS2⟩:∃S,(⟨L2.toArray⟩:ByteArray)=S:=⟨_,rfl⟩;rw [U]at hsz;rw [hS1]at hsz1;rw [hS2]at hsz2;have hd:decide ((67108864:Int)<(S.size:Int))=false:=rC (by omega);have hle:S.size≤67108864:=(by omega);have h41:S1.size≤4:=(by omega);have h42:S2.size≤4:=(by omega);have HS:=rn (show(⟨(dL Y ct en st l1).toArray⟩:ByteArray)=S from by rw [←HBB.out];exact U);have HL1:=rn (show ca.f k (S.size:Int) 4=some S1 from by rw [hsz,hl1.1,hS1]);obtain⟨cs,hcs⟩:∃cs,Crc.sum (S1++S).data.toList=cs:=⟨_,rfl⟩;have hcl:Crc.sum (L1++B)=cs:=(by rw [←hcs,←hS1,←U,cN]);have hclt:cs<4294967296:=(by rw [←hcl];exact sg (n:=32) (Crc.rm _ _ (by decide)) (by decide));have HL2:=rn (show ca.f k (cs:Int) 4=some S2 from by rw [←hcl,hl2.1,hS2]);have HCS:=rn hcs;have HRES:=rn (show S1++S2++S=s∧er=0 from by
    have:=Z.out;rw [hV,rq (by simp),rq (by simp),rq hlong]at this;simp only [Prod.mk.injEq]at this;refine⟨?_,this.2.symm⟩;rw [←this.1,←hS1,←hS2,←U,cN,cN])
   have her:=HRES.out.2;subst her;clear U hS1 hS2 hsz hsz1 hsz2 hl1 hl2 hL1 hL2 Z hcs hcl hz hlong;go_enter Tryz.func5,Tryz.ntmps5;go_wp2_with (first|(go_at_call 12;refine(jl _ _ l0 0 _ (Kd.C_below J.out r.out) V (G.out.now r.out) HO.out HE.out).mono ?_;rintro e w1 ⟨p,rfl,h⟩;have q:=rn (an r.out h);have D:=rn (aQ HC.out h);clear h;have hq0:w1.cell? ⟨w.heap.size,0,none⟩=some (.int .u64 st):=(ab D.out 0).trans rfl;have hq1:w1.cell? ⟨w.heap.size,1,none⟩=some (.slice A1 l1.length c1):=(ab D.out 1).trans rfl)|(go_at_call 13;refine(bE.calls k _ _ l0 st _ _ l1 true _ (Kd.C_below J.out q.out) V (Kd.C_below HR1.out q.out) hc1 (G.out.now q.out) HM.out).mono ?_;rintro e w2 ⟨rfl,h⟩;have z:=rn (an q.out h);have HC2:=rn (aQ D.out h);clear h;have hp0:w2.cell? ⟨w.heap.size,0,none⟩=some (.int .u64 st):=(ab HC2.out 0).trans rfl;have hp1:w2.cell? ⟨w.heap.size,1,none⟩=some (.slice A1 l1.length c1):=(ab HC2.out 1).trans rfl)|(go_at_call 14;refine(lF k Y ct en _ _ _ _ l0 st l1 _ (Kd.C_below J.out z.out) V (Kd.C_below HR1.out z.out) hc1 (G.out.now z.out) HST.out HLN.out HX.out HZ.out).mono ?_;rintro e w3 ⟨rfl,h⟩;rw [HS.out];have HB3:=rn (an z.out h);clear h)|(go_at_call 15;((with_reducible refine(ca.calls k _ _ _ _ HL1.out).mono ?_);rintro e w4 ⟨rfl,h⟩;have HB4:=rn (an HB3.out h);clear h HL1))|(go_at_call 16;refine(nZ _ _ (by simp only [ByteArray.size_append];omega)).mono ?_;rintro e w5 ⟨rfl,h⟩;rw [HCS.out];have HB5:=rn (an HB4.out h);clear h)|(go_at_call 15;((with_reducible refine(ca.calls k _ _ _ _ HL2.out).mono ?_);rintro e w6 ⟨rfl,h⟩;have HB6:=rn (an HB5.out h);clear h)))
   go_ret2
   exact⟨by rw [←HRES.out.1];rfl,HB6.out⟩
theorem jT{w W q:World}(h:Below w.heap.size w W)(hd:bM W q):Below w.heap.size w q:=by
 obtain⟨n,rfl⟩:=hd.out;exact aq h n
set_option maxHeartbeats 4000000 in
set_option maxRecDepth 100000 in
theorem kZ(k:Nat)(vb:Int→List UInt8)(ct:ByteArray→List UInt8)(en:S52→ByteArray)(A0 A1:Option Addr)(c0 c1:Nat)(l0:List S48)(st:Int)(l1:List S52)(D:Int)(mb:Bool)(B L1 L2:List UInt8)(s:ByteArray)(er:Int)(w:World)
 (hr0:Kd.C k48 w A0 l0.length l0)(hc0:l0.length≤c0)(hr1:Kd.C k52 w A1 l1.length l1)(hc1:l1.length≤c1)(hG:GT w)(hok:∀t∈l0,df t)
 (hbe:da l0=D)(hmay:D=0→aw.f k l0 st l1=some mb)(hB:B=dL vb ct en st l1)
 (hst:D=0→mb=true→aT.f k st=some ⟨(vb st).toArray⟩)(hln:D=0→mb=true→aT.f k (l1.length:Int)=some ⟨(vb l1.length).toArray⟩)(hx:D=0→mb=true→∀x∈l1,n7 k vb ct en l0 x)(hz:D=0→mb=true→B.length≤70368744177664)
 (hL1:D=0→mb=true→B.length≤67108864→bc.f k (B.length:Int) 4=some ⟨L1.toArray⟩∧L1.length=4)(hL2:D=0→mb=true→B.length≤67108864→bc.f k (Crc.sum (L1++B):Nat) 4=some ⟨L2.toArray⟩∧L2.length=4)
 (hsum:∀x:List UInt8,D=0→mb=true→x.length≤67108868→bb.f k ⟨x.toArray⟩=some ((Crc.sum x:Nat):Int))
 (hv:hV D mb B L1 L2=(s,er)):
 Calls Tryz.prog 8 #[.slice A0 l0.length c0, .agg #[.int .u64 st, .slice A1 l1.length c1]] w fun e w'=>e= .returned (.tuple #[.string s, .int .i64 er])∧Below w.heap.size w w':=by
 have HR0:=rn hr0;have HR1:=rn hr1;have HG:=rn hG;have HO:=rn hok;have HE:=rn hbe;have HV:=rn hv;have G:=rn (ai (rr w.heap.size w) (.cells #[.int .u64 st, .slice A1 l1.length c1] 26));have HC:=rn (cl w (.cells #[.int .u64 st, .slice A1 l1.length c1] 26));clear hr0 hr1 hG hok hbe hv;have hu26:=Tryz.underlying26;by_cases hz0:D=0
 case neg=>
  have hd:(D !=0)=true:=by rw [rH];exact hz0
  obtain⟨rfl,rfl⟩:s=⟨#[]⟩∧er=D:=by have:=HV.out;rw [hV,rp hz0]at this;simp only [Prod.mk.injEq]at this;exact⟨this.1.symm,this.2.symm⟩
  clear hmay hB hst hln hx hz hL1 hL2 HV hsum;go_enter Tryz.func8,Tryz.ntmps8;go_wp2_with (go_at_call 19;refine(gW _ _ l0 er _ (Kd.C_below HR0.out G.out) (HG.out.now G.out) HO.out HE.out).mono ?_;rintro e w1 ⟨U,n1,Y,V,n2,Z,x,y,z,a3,n3,k3,rfl,h⟩;have q:=rn (ai (an G.out h) (.cells #[.slice U n1 Y, .slice V n2 Z, .int .i64 x, .int .u64 y, .int .u64 z, .slice a3 n3 k3] 58));clear h)
  go_ret2
  exact⟨rfl,q.out⟩
 subst hz0;have hmay:=hmay rfl;cases mb with
 |false=>
  have HM:=rn hmay;obtain⟨rfl,rfl⟩:s=⟨#[]⟩∧er=230:=by have:=HV.out;rw [hV,rq (by simp),rp rfl]at this;simp only [Prod.mk.injEq]at this;exact⟨this.1.symm,this.2.symm⟩
  clear hmay hB hst hln hx hz hL1 hL2 HV hsum;go_enter Tryz.func8,Tryz.ntmps8;go_wp2_with (first|(go_at_call 19;refine(gW _ _ l0 0 _ (Kd.C_below HR0.out G.out) (HG.out.now G.out) HO.out HE.out).mono ?_;rintro e w1 ⟨U,n1,Y,V,n2,Z,x,y,z,a3,n3,k3,rfl,h⟩;have q:=rn (ai (an G.out h) (.cells #[.slice U n1 Y, .slice V n2 Z, .int .i64 x, .int .u64 y, .int .u64 z, .slice a3 n3 k3] 58));have r:=rn (aQ HC.out h);have HC1:=rn (ar r.out (.cells #[.slice U n1 Y, .slice V n2 Z, .int .i64 x, .int .u64 y, .int .u64 z, .slice a3 n3 k3] 58));clear h;have hwl:=bH r.out;have hq0:w1.cell? ⟨w.heap.size,0,none⟩=some (.int .u64 st):=(ab r.out 0).trans rfl;have hq1:w1.cell? ⟨w.heap.size,1,none⟩=some (.slice A1 l1.length c1):=(ab r.out 1).trans rfl)|(go_at_call 20;refine(aw.calls k _ _ l0 st _ _ l1 false _ (Kd.C_below HR0.out q.out) hc0 (Kd.C_below HR1.out q.out) hc1 (HG.out.now q.out) HM.out).mono ?_;rintro e w2 ⟨rfl,h⟩;have J:=rn (an q.out h);clear h))
  go_ret2
  exact⟨rfl,J.out⟩
 |true=>
  have HM:=rn hmay;have HST:=rn (hst rfl rfl);have HLN:=rn (hln rfl rfl);have HX:=rn (hx rfl rfl);have hz:=hz rfl rfl;have hL1:=hL1 rfl rfl;have hL2:=hL2 rfl rfl;have HBB:=rn hB;have HZ:=rn (show(dL vb ct en st l1).length≤70368744177664 from hB▸hz);clear hmay hst hln hx hB;by_cases hlong:67108864<B.length
  ·have hsz:(⟨B.toArray⟩:ByteArray).size=B.length:=de B
   obtain⟨S,X⟩:∃S,(⟨B.toArray⟩:ByteArray)=S:=⟨_,rfl⟩;rw [X]at hsz;have hd:decide ((67108864:Int)<(S.size:Int))=true:=ru (by omega);have HS:=rn (show(⟨(dL vb ct en st l1).toArray⟩:ByteArray)=S from by rw [←HBB.out];exact X);obtain⟨rfl,rfl⟩:s=⟨#[]⟩∧er=3:=(by have:=HV.out;rw [hV,rq (by simp),rq (by simp),rp hlong]at this;simp only [Prod.mk.injEq]at this;exact⟨this.1.symm,this.2.symm⟩);clear X hsz hL1 hL2 HV hsum;go_enter Tryz.func8,Tryz.ntmps8;go_wp2_with (first|(go_at_call 19;refine(gW _ _ l0 0 _ (Kd.C_below HR0.out G.out) (HG.out.now G.out) HO.out HE.out).mono ?_;rintro e w1 ⟨U,n1,Y,V,n2,Z,x,y,z,a3,n3,k3,rfl,h⟩;have q:=rn (ai (an G.out h) (.cells #[.slice U n1 Y, .slice V n2 Z, .int .i64 x, .int .u64 y, .int .u64 z, .slice a3 n3 k3] 58));have r:=rn (aQ HC.out h);have HC1:=rn (ar r.out (.cells #[.slice U n1 Y, .slice V n2 Z, .int .i64 x, .int .u64 y, .int .u64 z, .slice a3 n3 k3] 58));clear h;have hwl:=bH r.out;have hq0:w1.cell? ⟨w.heap.size,0,none⟩=some (.int .u64 st):=(ab r.out 0).trans rfl;have hq1:w1.cell? ⟨w.heap.size,1,none⟩=some (.slice A1 l1.length c1):=(ab r.out 1).trans rfl)|(go_at_call 20;refine(aw.calls k _ _ l0 st _ _ l1 true _ (Kd.C_below HR0.out q.out) hc0 (Kd.C_below HR1.out q.out) hc1 (HG.out.now q.out) HM.out).mono ?_;rintro e w2 ⟨rfl,h⟩;have J:=rn (an q.out h);have HC2:=rn (aQ HC1.out h);clear h;have hp0:w2.cell? ⟨w.heap.size,0,none⟩=some (.int .u64 st):=(ab HC2.out 0).trans rfl;have hp1:w2.cell? ⟨w.heap.size,1,none⟩=some (.slice A1 l1.length c1):=(ab HC2.out 1).trans rfl)|(go_at_call 21;refine(j7 k vb ct en _ _ _ _ l0 st l1 _ (Kd.C_below HR0.out J.out) hc0 (Kd.C_below HR1.out J.out) hc1 (HG.out.now J.out) HST.out HLN.out HX.out HZ.out).mono ?_;rintro e w3 ⟨rfl,h⟩;rw [HS.out];have HB3:=rn (an J.out h);clear h))
   go_ret2
   exact⟨rfl,HB3.out⟩
  ·have hl1:=hL1 (by omega)
   have hl2:=hL2 (by omega);have hsz:(⟨B.toArray⟩:ByteArray).size=B.length:=de B;have hsz1:(⟨L1.toArray⟩:ByteArray).size=4:=(de L1).trans hl1.2;have hsz2:(⟨L2.toArray⟩:ByteArray).size=4:=(de L2).trans hl2.2;obtain⟨S,X⟩:∃S,(⟨B.toArray⟩:ByteArray)=S:=⟨_,rfl⟩;obtain⟨S1,hS1⟩:∃S,(⟨L1.toArray⟩:ByteArray)=S:=⟨_,rfl⟩;obtain⟨S2,hS2⟩:∃S,(⟨L2.toArray⟩:ByteArray)=S:=⟨_,rfl⟩;rw [X]at hsz;rw [hS1]at hsz1;rw [hS2]at hsz2;have hd:decide ((67108864:Int)<(S.size:Int))=false:=rC (by omega);have hle:S.size≤67108864:=(by omega);have h41:S1.size≤4:=(by omega);have h42:S2.size≤4:=(by omega);have HS:=rn (show(⟨(dL vb ct en st l1).toArray⟩:ByteArray)=S from by rw [←HBB.out];exact X);have HL1:=rn (show bc.f k (S.size:Int) 4=some S1 from by rw [hsz,hl1.1,hS1]);obtain⟨cs,hcs⟩:∃cs,Crc.sum (S1++S).data.toList=cs:=⟨_,rfl⟩;have hcl:Crc.sum (L1++B)=cs:=(by rw [←hcs,←hS1,←X,cN]);have hclt:cs<4294967296:=(by rw [←hcl];exact sg (n:=32) (Crc.rm _ _ (by decide)) (by decide));have HL2:=rn (show bc.f k (cs:Int) 4=some S2 from by rw [←hcl,hl2.1,hS2]);have HSM:=rn (show bb.f k (S1++S)=some ((cs:Nat):Int)from by rw [←hS1,←X,cN,hsum (L1++B) rfl rfl (by rw [rO];omega),hcl]);have HRES:=rn (show S1++S2++S=s∧er=0 from by
    have:=HV.out;rw [hV,rq (by simp),rq (by simp),rq hlong]at this;simp only [Prod.mk.injEq]at this;refine⟨?_,this.2.symm⟩;rw [←this.1,←hS1,←hS2,←X,cN,cN])
   have her:=HRES.out.2;subst her;clear X hS1 hS2 hsz hsz1 hsz2 hl1 hl2 hL1 hL2 HV hcs hcl hz hlong hsum;go_enter Tryz.func8,Tryz.ntmps8;go_wp2_with (first|(go_at_call 19;refine(gW _ _ l0 0 _ (Kd.C_below HR0.out G.out) (HG.out.now G.out) HO.out HE.out).mono ?_;rintro e w1 ⟨U,n1,Y,V,n2,Z,x,y,z,a3,n3,k3,rfl,h⟩;have q:=rn (ai (an G.out h) (.cells #[.slice U n1 Y, .slice V n2 Z, .int .i64 x, .int .u64 y, .int .u64 z, .slice a3 n3 k3] 58));have r:=rn (aQ HC.out h);have HC1:=rn (ar r.out (.cells #[.slice U n1 Y, .slice V n2 Z, .int .i64 x, .int .u64 y, .int .u64 z, .slice a3 n3 k3] 58));clear h;have hwl:=bH r.out;have hq0:w1.cell? ⟨w.heap.size,0,none⟩=some (.int .u64 st):=(ab r.out 0).trans rfl;have hq1:w1.cell? ⟨w.heap.size,1,none⟩=some (.slice A1 l1.length c1):=(ab r.out 1).trans rfl)|(go_at_call 20;refine(aw.calls k _ _ l0 st _ _ l1 true _ (Kd.C_below HR0.out q.out) hc0 (Kd.C_below HR1.out q.out) hc1 (HG.out.now q.out) HM.out).mono ?_;rintro e w2 ⟨rfl,h⟩;have J:=rn (an q.out h);have HC2:=rn (aQ HC1.out h);clear h;have hp0:w2.cell? ⟨w.heap.size,0,none⟩=some (.int .u64 st):=(ab HC2.out 0).trans rfl;have hp1:w2.cell? ⟨w.heap.size,1,none⟩=some (.slice A1 l1.length c1):=(ab HC2.out 1).trans rfl)|(go_at_call 21;refine(j7 k vb ct en _ _ _ _ l0 st l1 _ (Kd.C_below HR0.out J.out) hc0 (Kd.C_below HR1.out J.out) hc1 (HG.out.now J.out) HST.out HLN.out HX.out HZ.out).mono ?_;rintro e w3 ⟨rfl,h⟩;rw [HS.out];have HB3:=rn (an J.out h);clear h)|(go_at_call 22;((with_reducible refine(bc.calls k _ _ _ _ HL1.out).mono ?_);rintro e w4 ⟨rfl,h⟩;have HB4:=rn (an HB3.out h);clear h HL1))|(go_at_call 23;refine(bb.calls k _ _ _ HSM.out).mono ?_;rintro e w5 ⟨rfl,h⟩;have HB5:=rn (jT HB4.out h);clear h)|(go_at_call 22;((with_reducible refine(bc.calls k _ _ _ _ HL2.out).mono ?_);rintro e w6 ⟨rfl,h⟩;have HB6:=rn (an HB5.out h);clear h)))
   go_ret2
   exact⟨by rw [←HRES.out.1];rfl,HB6.out⟩
theorem mr:Crc.sum [49,50,51,52,53,54,55,56,57]=3808858755:=by decide+kernel
set_option maxRecDepth 100000 in
theorem nW(w:World):Calls Tryz.prog 9 #[] w fun e y=>e= .returned (.bool true)∧Below w.heap.size w y:=by
 have r:Crc.sum (⟨#[49,50,51,52,53,54,55,56,57]⟩:ByteArray).data.toList=3808858755:=mr;go_enter Tryz.func9,Tryz.ntmps9;go_wp2_with (go_at_call 16;refine(nZ _ _ (by decide)).mono ?_;rintro e w1 ⟨rfl,h⟩;rw [r];have q:=rn h;clear h);go_ret;exact⟨rfl,q.out⟩
structure lL (k:Nat) (l0:List S48) (st:Int) (l1:List S52) (s:ByteArray) (J:Int):Prop where
 ex:∃(q:Int→List UInt8) (D:ByteArray→List UInt8) (G:S52→ByteArray) (y:Int) (z:Bool) (B h r:List UInt8),
  da l0=y∧(y=0→bE.f k l0 st l1=some z∧aw.f k l0 st l1=some z)∧B=dL q D G st l1∧
  (y=0→z=true→(bo.f k st=some ⟨(q st).toArray⟩∧bo.f k (l1.length:Int)=some ⟨(q l1.length).toArray⟩∧aT.f k st=some ⟨(q st).toArray⟩∧aT.f k (l1.length:Int)=some ⟨(q l1.length).toArray⟩)∧(∀x∈l1,pX k q D G l0 x∧n7 k q D G l0 x)∧B.length≤70368744177664)∧
  (y=0→z=true→B.length≤67108864→(ca.f k (B.length:Int) 4=some ⟨h.toArray⟩∧h.length=4)∧(ca.f k (Crc.sum (h++B):Nat) 4=some ⟨r.toArray⟩∧r.length=4)∧(bc.f k (B.length:Int) 4=some ⟨h.toArray⟩∧h.length=4)∧(bc.f k (Crc.sum (h++B):Nat) 4=some ⟨r.toArray⟩∧r.length=4))∧
  hV y z B h r=(s,J)
theorem n5(k:Nat)(y A1:Option Addr)(z c1:Nat)(l0:List S48)(st:Int)(l1:List S52)(s:ByteArray)(D:Int)(w:World)
 (hr0:Kd.C k48 w y l0.length l0)(hc0:l0.length≤z)(hr1:Kd.C k52 w A1 l1.length l1)(hc1:l1.length≤c1)(hG:GT w)(hok:∀t∈l0,df t)(hF:lL k l0 st l1 s D):
 Calls Tryz.prog 5 #[.slice y l0.length z, .agg #[.int .u64 st, .slice A1 l1.length c1]] w fun e w'=>e= .returned (.tuple #[.string s, .int .i64 D])∧Below w.heap.size w w':=by
 obtain⟨vb,Y,Z,X,mb,B,U,V,h1,h2,h3,r,J,h6⟩:=hF.ex;exact mw k vb Y Z y A1 z c1 l0 st l1 X mb B U V s D w hr0 hc0 hr1 hc1 hG hok h1 (fun h=>(h2 h).1) h3 (fun h q=>(r h q).1.1) (fun h q=>(r h q).1.2.1) (fun h q x hx=>((r h q).2.1 x hx).1) (fun h q=>(r h q).2.2) (fun h q G=>(J h q G).1) (fun h q G=>(J h q G).2.1) h6
theorem my(k:Nat)(z A1:Option Addr)(D c1:Nat)(l0:List S48)(st:Int)(l1:List S52)(s:ByteArray)(G:Int)(w:World)
 (hr0:Kd.C k48 w z l0.length l0)(hc0:l0.length≤D)(hr1:Kd.C k52 w A1 l1.length l1)(hc1:l1.length≤c1)(hG:GT w)(hok:∀t∈l0,df t)(hF:lL k l0 st l1 s G)
 (hsum:∀x:List UInt8,x.length≤67108868→bb.f k ⟨x.toArray⟩=some ((Crc.sum x:Nat):Int)):
 Calls Tryz.prog 8 #[.slice z l0.length D, .agg #[.int .u64 st, .slice A1 l1.length c1]] w fun e w'=>e= .returned (.tuple #[.string s, .int .i64 G])∧Below w.heap.size w w':=by
 obtain⟨vb,Z,en,Y,mb,B,V,X,h1,h2,h3,y,U,h6⟩:=hF.ex;exact kZ k vb Z en z A1 D c1 l0 st l1 Y mb B V X s G w hr0 hc0 hr1 hc1 hG hok h1 (fun q=>(h2 q).2) h3 (fun q r=>(y q r).1.2.2.1) (fun q r=>(y q r).1.2.2.2) (fun q r x hx=>((y q r).2.1 x hx).2) (fun q r=>(y q r).2.2) (fun q r J=>(U q r J).2.2.1) (fun q r J=>(U q r J).2.2.2) (fun x _ _ h=>hsum x h) h6
set_option maxHeartbeats 4000000 in
set_option maxRecDepth 100000 in
theorem pE(k:Nat)(Y A1:Option Addr)(c0 c1:Nat)(l0:List S48)(st:Int)(l1:List S52)(s:ByteArray)(X:Int)(w:World)
 (hr0:Kd.C k48 w Y l0.length l0)(hc0:l0.length≤c0)(hr1:Kd.C k52 w A1 l1.length l1)(hc1:l1.length≤c1)(hG:GT w)(hok:∀t∈l0,df t)(hF:lL k l0 st l1 s X)
 (hT:bp.f k l0=some l0)(hY:bJ.f k st l1=some (st,l1))
 (hsum:∀x:List UInt8,x.length≤67108868→bb.f k ⟨x.toArray⟩=some ((Crc.sum x:Nat):Int)):
 Calls Tryz.prog 3 #[.slice Y l0.length c0, .agg #[.int .u64 st, .slice A1 l1.length c1]] w fun e V=>e= .returned (.bool true)∧Below w.heap.size w V:=by
 have HR0:=rn hr0;have HR1:=rn hr1;have HG:=rn hG;have HO:=rn hok;have Z:=rn hF;have HT:=rn hT;have HY:=rn hY;have HM:=rn hsum;have h:=rn (ai (rr w.heap.size w) (.cells #[.int .u64 st, .slice A1 l1.length c1] 26));have r:=rn (cl w (.cells #[.int .u64 st, .slice A1 l1.length c1] 26));have hu26:=Tryz.underlying26;clear hr0 hr1 hG hok hF hT hY hsum;go_enter Tryz.func3,Tryz.ntmps3;go_wp2_with fail
 go_region_held3 (fun V=>V.cell? ⟨w.heap.size,0,none⟩=some (.int .u64 st)∧V.cell? ⟨w.heap.size,1,none⟩=some (.slice A1 l1.length c1)) (first|go_keep|exact⟨G,J⟩)
  (first
   |(go_at_call 6;((with_reducible refine(bp.calls k _ _ l0 l0 _ (by exact Cs HR0.out h.out rfl rfl rfl rfl) hc0 HT.out).mono ?_);rintro e w1 ⟨v,rfl,D,q⟩;obtain⟨A2,c2,rfl,hc2,hC2⟩:=Kd.R_reads D;have U:=rn hC2;have y:=rn (dH q h.out rfl rfl rfl rfl);have z:=rn (cX q r.out);clear h r q D hC2;have h:=y;have r:=z;clear y z;have G:w1.cell? ⟨w.heap.size,0,none⟩=some (.int .u64 st):=(ab r.out 0).trans rfl;have J:w1.cell? ⟨w.heap.size,1,none⟩=some (.slice A1 l1.length c1):=(ab r.out 1).trans rfl))|(go_at_call 7;((with_reducible refine(bJ.calls k _ _ _ l1 st l1 _ (by exact Cs HR1.out h.out rfl rfl rfl rfl) hc1 HY.out).mono ?_);rintro e w2 ⟨v,rfl,D,q⟩;obtain⟨A3,c3,rfl,hc3,hC3⟩:=Kd.R_reads (Kd.S_R D);have HC3:=rn hC3;have n0:=rn (Cs U.out q rfl rfl rfl rfl);have y:=rn (dH q h.out rfl rfl rfl rfl);have z:=rn (cX q r.out);clear h r U q D hC3 G J;have U:=n0;have h:=y;have r:=z;clear n0 y z;have G:w2.cell? ⟨w.heap.size,0,none⟩=some (.int .u64 st):=(ab r.out 0).trans rfl;have J:w2.cell? ⟨w.heap.size,1,none⟩=some (.slice A1 l1.length c1):=(ab r.out 1).trans rfl))|(go_at_call 5;((with_reducible refine(n5 k _ _ _ _ l0 st l1 s X _ (by exact U.out) hc2 (by exact HC3.out) hc3 (by exact GT.now HG.out (dc h.out rfl rfl rfl rfl)) HO.out Z.out).mono ?_);rintro e w3 ⟨rfl,q⟩;have y:=rn (dH q h.out rfl rfl rfl rfl);have z:=rn (cX q r.out);clear h r q G J;have h:=y;have r:=z;clear y z;have G:w3.cell? ⟨w.heap.size,0,none⟩=some (.int .u64 st):=(ab r.out 0).trans rfl;have J:w3.cell? ⟨w.heap.size,1,none⟩=some (.slice A1 l1.length c1):=(ab r.out 1).trans rfl)))
 go_wp2_with (first|(go_at_call 8;refine(my k _ _ _ _ l0 st l1 s X _ (Kd.C_below HR0.out h.out) hc0 (Kd.C_below HR1.out h.out) hc1 (HG.out.now h.out) HO.out Z.out HM.out).mono ?_;rintro e w4 ⟨rfl,q⟩;have y:=rn (an h.out q);clear h q;have h:=y;clear y)|(go_at_call 9;refine(nW _).mono ?_;rintro e w5 ⟨rfl,q⟩;have y:=rn (an h.out q);clear h q;have h:=y;clear y));go_ret;exact⟨rfl,h.out⟩
def ctL(s:ByteArray):List UInt8:=vbL (s.size:Int)++s.data.toList
def enL(l0:List S48)(x:S52):ByteArray:=(iB (ax l0 x.f0) x.f3).1
theorem j8{l0:List S48}(h:da l0=0):∀t∈l0,bh t=0:=by
 unfold da at h;split at h;·omega
 split at h;·rename_i h1;exact absurd h h1
 rename_i h1;intro t q;obtain⟨i,hi,rfl⟩:=List.getElem_of_mem q;have:=dT _ _ (sE.1 h1) i hi;rw [gT l0 i hi]at this;exact this
theorem lC(s:ByteArray)(h:s.size<18446744073709551616):(ctL s).length≤10+s.size:=by
 unfold ctL;rw [rO,cG];have:=gO (s.size:Int) (by omega);omega
theorem jS(l0:List S48)(x:S52):(enL l0 x).size≤65536:=lW _ _
theorem nJ{α:Type}(f:α→List UInt8)(C:Nat):∀l:List α,(∀x∈l,(f x).length≤C)→(l.flatMap f).length≤l.length*C:=by
 intro l
 induction l with
 |nil=>intro _;simp
 |cons x l r=>
  intro h;rw [List.flatMap_cons,List.length_append,List.length_cons,Nat.add_mul,Nat.one_mul];have h1:=h x (rW ..);have z:=r fun y q=>h y (rX _ q)
  omega
theorem o2{l0:List S48}{x:S52}(h:oa l0 x)(hn:l0.length≤64):(chL vbL ctL (enL l0) x).length≤70000:=by
 have q:=h.lo;have h1:=h.hi;have r:=h.key;have a:=gO x.f0 (by omega);have b:=lC x.f1 (by omega);have c:=jS l0 x;have d:=lC (enL l0 x) (by omega);unfold chL;simp only [List.length_append];split;·simp only [List.length_singleton];omega
 ·simp only [List.length_cons];omega
theorem ph(k:Nat)(q:10≤k)(n:Int)(h:0≤n)(h1:n<18446744073709551616):bo.f k n=some ⟨(vbL n).toArray⟩:=by
 have:=jv k n.toNat q (by omega);rw [Int.toNat_of_nonneg h]at this;exact this
theorem mK(k:Nat)(q:10≤k)(n:Int)(h:0≤n)(h1:n<18446744073709551616):aT.f k n=some ⟨(vbL n).toArray⟩:=by
 have:=hO k n.toNat q (by omega);rw [Int.toNat_of_nonneg h]at this;exact this
theorem oG{l0:List S48}{x:S52}(h:oa l0 x):ax l0 x.f0∈l0:=lb l0 _ h.lo h.hi
theorem qt(l0:List S48)(l1:List S52)(st:Int)(am:∀t∈l0,df t)(hx:∀x∈l1,RC x):∃s er,∀k,400000≤k→lL k l0 st l1 s er:=by
 obtain⟨r,q⟩:∃r,da l0=r:=⟨_,rfl⟩;by_cases y:r=0
 case neg=>
  refine⟨_,_,fun k _=>⟨vbL,ctL,enL l0,r,true,dL vbL ctL (enL l0) st l1,[],[],q,fun h=>absurd h y,rfl,fun h=>absurd h y,fun h=>absurd h y,rfl⟩⟩
 case pos=>
 have hch:=j8 (by rw [q];exact y);have hn:l0.length≤64:=by
  rw [y]at q;unfold da at q;split at q;·omega
  ·omega
 obtain⟨mb,m1,m2,m3⟩:=nh l0 l1 st am hch hx;obtain⟨B,hB⟩:∃B,dL vbL ctL (enL l0) st l1=B:=⟨_,rfl⟩;have hlt:Crc.sum (toB (lB 4 B.length)++B)<4294967296:=sg (n:=32) (Crc.rm _ _ (by decide)) (by decide);refine⟨_,_,fun k Y=>⟨vbL,ctL,enL l0,r,mb,B,toB (lB 4 B.length),toB (lB 4 (Crc.sum (toB (lB 4 B.length)++B))),q,fun _=>⟨m1 k Y,m2 k Y⟩,hB.symm,fun _ Z=>?_,fun _ Z hb=>?_,rfl⟩⟩
 ·obtain⟨hst,hl1,V⟩:=m3 Z
  refine⟨⟨ph k (by omega) st (by omega) (by omega),ph k (by omega) _ (by omega) (by omega),mK k (by omega) st (by omega) (by omega),mK k (by omega) _ (by omega) (by omega)⟩,fun x G=>?_,?_⟩
  ·have z:=V x G
   have hr:=hx x G;have D:=z.lo;have X:=z.hi;have hkey:=z.key;have ht:=am _ (oG z);have he:=jS l0 x;constructor;·exact⟨D,X,ph k (by omega) _ D (by omega),il k (by omega) _ (by omega),fun _=>⟨_,fA k (by omega) (row:=x.f3) ht hr.vs⟩,fun _=>il k (by omega) _ (by omega)⟩
   ·exact⟨D,X,mK k (by omega) _ D (by omega),mK k (by omega) _ (by omega) (by omega),rfl,by omega,fun _=>⟨_,eG k (by omega) (row:=x.f3) ht hr.vs⟩,fun _=>mK k (by omega) _ (by omega) (by omega),fun _=>rfl,by omega⟩
  ·rw [←hB]
   unfold dL;simp only [List.length_append];have a:=gO st (by omega);have b:=gO (l1.length:Int) (by omega);have c:=nJ (chL vbL ctL (enL l0)) 70000 l1 (fun x G=>o2 (V x G) hn);have d:l1.length*70000≤65536*70000:=sc _ hl1;omega
 ·have J:(toB (lB 4 B.length)).length=4:=by rw [k8,kE]
  have U:(toB (lB 4 (Crc.sum (toB (lB 4 B.length)++B)))).length=4:=by rw [k8,kE]
  exact⟨⟨qk k _ (by omega),J⟩,⟨qk k _ (by omega),U⟩,⟨lr k _ (by omega) (by omega),J⟩,⟨lr k _ (by omega) hlt,U⟩⟩
theorem oP(h A1:Option Addr)(q c1:Nat)(l0:List S48)(st:Int)(l1:List S52)(w:World)
 (Y:Kd.C k48 w h l0.length l0)(J:l0.length≤q)(Z:Kd.C k52 w A1 l1.length l1)(U:l1.length≤c1)(G:GT w)(r:∀t∈l0,df t)(hx:∀x∈l1,RC x)
 (C:Nat)(V:l0.length≤1256584717458)(hz0:∀t∈l0,kX C t)(X:l1.length≤2513169434916)(z:∀x∈l1,x.f3.length≤3518437208883):
 Calls Tryz.prog 3 #[.slice h l0.length q, .agg #[.int .u64 st, .slice A1 l1.length c1]] w fun e w'=>e= .returned (.bool true)∧Below w.heap.size w w':=by
 obtain⟨s,D,hF⟩:=qt l0 l1 st r hx;obtain⟨k,hk⟩:∃k,k=1000000000+l0.length+2*C+3+l1.length+3518437208884:=⟨_,rfl⟩;refine pE k h A1 q c1 l0 st l1 s D w Y J Z U G r (hF k (by omega)) ?_ ?_ ?_;·exact om l0 C V hz0 l0.length 0 k (by omega) (by omega)
 ·exact mj st l1 3518437208884 X (fun x y=>⟨z x y,by have:=z x y;omega⟩) l1.length 0 k (by omega) (by omega)
 ·intro x hxl
  exact kp k x hxl (by omega)
end Go.Proofs.YtiphlfpainoeiaaGreatDoor
namespace Go.Proofs.YtiphlfpainoeiaaGreatDoor
open Go.RowKit Go.Proofs.YtiphlfpainoeiaaGreatDoorW.PrintWords L Go.ChangeShapes Go.WideShapes
def Sd{H:Type}(t:TypeId)(d:DataW H):Prop:=∀n∈d.weights Tryz.prog t,n≤140737488351232
theorem dz{H:Type}{t:TypeId}{q:Array Field}{parts:List (DataW H)}(y:Tryz.prog.underlying t=some (.struct q))(h:Sd t (.agg parts))(i:Nat){f:Field}{d:DataW H}(r:q[i]? =some f)(hd:parts[i]? =some d):Sd f.type d:=by
 intro n hn;apply h;simp only [DataW.weights,y];exact DataW.weights_mem_each (j:=i) (by rw [List.getElem?_map,Array.getElem?_toList,r];rfl) hd n hn
theorem ju{H:Type}{e:TypeId}:∀{l:List (DataW H)} {d:DataW H},d∈l→∀n∈d.weights Tryz.prog e,n∈DataW.weightsAll Tryz.prog e l:=by
 intro l
 induction l with
 |nil=>intro d h;cases h
 |cons x l q=>
  intro d h n hn;simp only [DataW.weightsAll,List.mem_append];rcases List.mem_cons.1 h with rfl|h;·exact Or.inl hn
  ·exact Or.inr (q h n hn)
section
variable {H:Type} {enc:TypeId×Value→H} {W:World} {sp:Nat→Bool} {hd:Bool} {fuel:Nat} {cs:List Value} {x:DataW H×List MemPlace}
theorem ia{t:TypeId}(r:Tryz.prog.underlying t=some (.int .i64))(h:DataW.trod enc Tryz.prog W 0 sp hd fuel t cs=some x):∃n:Int,cs= [.int .i64 n]∧ -9223372036854775808≤n∧n≤9223372036854775807:=by
 obtain⟨n,e,_,q⟩:=DataW.trod_int r h;refine⟨n,e,?_⟩;simp only [Lit.wf,Bool.and_eq_true,decide_eq_true_eq]at q;exact q
theorem py{t:TypeId}(q:Tryz.prog.underlying t=some (.int .u64))(h:DataW.trod enc Tryz.prog W 0 sp hd fuel t cs=some x):∃n:Int,cs= [.int .u64 n]:=by
 obtain⟨n,e,_,_⟩:=DataW.trod_int q h;exact⟨n,e⟩
theorem iX(h:DataW.trod enc Tryz.prog W 0 sp hd fuel 4 cs=some x):∃b:Bool,cs= [.bool b]:=by
 obtain⟨b,e,_⟩:=DataW.trod_bool Tryz.underlying4 h;exact⟨b,e⟩
theorem ki{P:Program}{w:World}{t:TypeId}(q:P.underlying t=some (.float .f64))(h:DataW.trod enc P w 0 sp hd fuel t cs=some x):∃b:Nat,cs= [.float .f64 b]∧(Lit.float .f64 b).wf=true:=by
 cases fuel with
 |zero=>simp [DataW.trod]at h
 |succ n=>
  unfold DataW.trod at h;rw [q]at h;split at h<;>simp_all
theorem m_(h:DataW.trod enc Tryz.prog W 0 sp hd fuel 82 cs=some x):∃b:Nat,cs= [.float .f64 b]∧b<18446744073709551616:=by
 obtain⟨b,e,q⟩:=ki Tryz.underlying82 h;simp only [Lit.wf,decide_eq_true_eq]at q;exact⟨b,e,q⟩
theorem gj(h:DataW.trod enc Tryz.prog W 0 sp hd fuel 9 cs=some x)(q:Sd 9 x.1):∃s:ByteArray,cs= [.string s]∧s.size≤140737488351232:=by
 obtain⟨s,e,r,_⟩:=DataW.trod_string Tryz.underlying9 h;refine⟨s,e,?_⟩;subst r;have:=q s.data.toList.length (by simp [DataW.weights]);rw [cG]at this;exact this
theorem ew{α:Type}(J:Kd α)(z:α){t e:TypeId}(B:Nat)(X:Tryz.prog.underlying t=some (.slice e))(Y:Tryz.prog.cellsOf e=J.sz)(hB:Tryz.prog.bytesOf e=B)(G:α→Prop)
 (elem:∀{fuel:Nat} {cs:List Value} {x:DataW H×List MemPlace},DataW.trod enc Tryz.prog W 0 sp hd fuel e cs=some x→Sd e x.1→∃v,J.K W v cs∧G v)
 (h:DataW.trod enc Tryz.prog W 0 sp hd fuel t cs=some x)(hs:Sd t x.1):∃(A:Option Addr) (c:Nat) (xs:List α),cs= [.slice A xs.length c]∧xs.length≤c∧xs.length*B≤140737488351232∧J.C W A xs.length xs∧∀v∈xs,G v:=by
 rcases Go.Deep.open_slice X h with⟨rfl,_⟩|⟨a,r,cap,m,n,D,Pl,rfl,_,hl,hm,hmm,rfl,hx⟩;·exact⟨none,0,[],rfl,rA _,by simp,⟨rfl,rR _,fun h=>absurd h (Nat.lt_irrefl _)⟩,fun v U=>by cases U⟩
 ·have hlm:r≤m:=by rw [hmm];split<;>omega
  have Z:Sd t (.slice ((List.range r).map D) ((List.range (m-r)).map fun j=>D (r+j))):=hs;have hw:r*B≤140737488351232:=by
   have:=Z ((((List.range r).map D).length+((List.range (m-r)).map fun j=>D (r+j)).length)*Tryz.prog.bytesOf e) (by simp only [DataW.weights,X];exact rW ..);rw [hB,ss,ss,List.length_range,List.length_range]at this;exact rK (sc B (by omega)) this
  have hsd:∀i,i<r→Sd e (D i):=by
   intro i hi q hq;refine Z q ?_;simp only [DataW.weights,X];refine rX _ (List.mem_append_left _ (ju (List.mem_map.2 ⟨i,List.mem_range.2 hi,rfl⟩) q hq))
  letI:Inhabited α:=⟨z⟩
  obtain⟨f,hf⟩:=Go.Deep.choose_lt (n:=r) (p:=fun i (v:α)=>(∃c,c.length=J.sz∧J.K W v c∧∀j u,c[j]? =some u→W.cell? (a.add (i*J.sz+j))=some u)∧G v) (fun i hi=>by
   obtain⟨cs',h1,h2⟩:=hx i (by omega);obtain⟨v,U,hg⟩:=elem h2 (hsd i hi);obtain⟨_,hlen,hcell⟩:=World.cells?_some h1;refine⟨v,⟨cs',by rw [hlen,Y],U,fun j u y=>?_⟩,hg⟩;have V:j<cs'.length:=by
    by_cases hj2:j<cs'.length;·exact hj2
    ·rw [sw (by omega)]at y;cases y
   have:=hcell j (by omega);rw [y,Go.Deep.add_add,Y]at this;exact this)
  refine⟨some a,cap,(List.range r).map f,by simp,by simpa using hl,by simpa using hw,⟨by simp,by simp;unfold maxLen at hm;omega,fun _=>⟨a,rfl,?_⟩⟩,?_⟩
  ·intro j p y
   rw [List.getElem?_map]at y;by_cases V:j<r
   ·rw [List.getElem?_range V]at y
    simp only [Option.map_some,Option.some.injEq]at y;subst y;exact(hf j V).1
   ·rw [sw (by simpa using V)]at y;cases y
  ·intro v U
   obtain⟨i,hi,rfl⟩:=List.mem_map.1 U;exact(hf i (List.mem_range.1 hi)).2
theorem oL{α:Type}{l:List α}(h:l.length=2):∃a0 q,l= [a0,q]:=by
 match l,h with
 |[a0,q],_=>exact⟨a0,q,rfl⟩
theorem qm{α:Type}{l:List α}(h:l.length=3):∃a0 q r,l= [a0,q,r]:=by
 match l,h with
 |[a0,q,r],_=>exact⟨a0,q,r,rfl⟩
theorem nj{α:Type}{l:List α}(h:l.length=4):∃a0 q r a3,l= [a0,q,r,a3]:=by
 match l,h with
 |[a0,q,r,a3],_=>exact⟨a0,q,r,a3,rfl⟩
theorem ql{α:Type}{l:List α}(h:l.length=5):∃a0 q r a3 a4,l= [a0,q,r,a3,a4]:=by
 match l,h with
 |[a0,q,r,a3,a4],_=>exact⟨a0,q,r,a3,a4,rfl⟩
theorem rf{α:Type}{l:List α}(h:l.length=7):∃a0 q r a3 a4 a5 y,l= [a0,q,r,a3,a4,a5,y]:=by
 match l,h with
 |[a0,q,r,a3,a4,a5,y],_=>exact⟨a0,q,r,a3,a4,a5,y,rfl⟩
def G84(v:S84):Prop:=RV v∧v.f3.size≤140737488351232
theorem qh(h:DataW.trod enc Tryz.prog W 0 sp hd fuel 84 cs=some x)(J:Sd 84 x.1):∃v:S84,cs= [.int .i64 v.f0, .int .i64 v.f1, .float .f64 v.f2, .string v.f3]∧G84 v:=by
 obtain⟨ys,n,_,rfl,V,hyl,G⟩:=sF Tryz.underlying84 h;rw [show Tryz.prog.cellsOf 84=4 from by kernel_rfl]at V;obtain⟨Y,Z,y2,U,rfl⟩:=nj hyl;obtain⟨q,c1,c2,c3,rfl⟩:=nj V;have r:DataW.trod enc Tryz.prog W 0 sp hd n 3 (([q,c1,c2,c3].drop 0).take (Tryz.prog.cellsOf 3))=some Y:=G 0 _ rfl;rw [show Tryz.prog.cellsOf 3=1 from by kernel_rfl]at r;replace r:DataW.trod enc Tryz.prog W 0 sp hd n 3 [q]=some Y:=r;have y:DataW.trod enc Tryz.prog W 0 sp hd n 2 (([q,c1,c2,c3].drop 1).take (Tryz.prog.cellsOf 2))=some Z:=G 1 _ rfl;rw [show Tryz.prog.cellsOf 2=1 from by kernel_rfl]at y;replace y:DataW.trod enc Tryz.prog W 0 sp hd n 2 [c1]=some Z:=y;have z:DataW.trod enc Tryz.prog W 0 sp hd n 82 (([q,c1,c2,c3].drop 2).take (Tryz.prog.cellsOf 82))=some y2:=G 2 _ rfl;rw [show Tryz.prog.cellsOf 82=1 from by kernel_rfl]at z;replace z:DataW.trod enc Tryz.prog W 0 sp hd n 82 [c2]=some y2:=z;have D:DataW.trod enc Tryz.prog W 0 sp hd n 9 (([q,c1,c2,c3].drop 3).take (Tryz.prog.cellsOf 9))=some U:=G 3 _ rfl;rw [show Tryz.prog.cellsOf 9=1 from by kernel_rfl]at D;replace D:DataW.trod enc Tryz.prog W 0 sp hd n 9 [c3]=some U:=D;have s3:Sd 9 U.1:=dz Tryz.underlying84 J 3 rfl rfl;obtain⟨a,ha,_⟩:=ia Tryz.underlying3 r;obtain⟨b,hb,hb1,hb2⟩:=ia Tryz.underlying2 y;obtain⟨f,hq,hq1⟩:=m_ z;obtain⟨s,J,X⟩:=gj D s3;cases ha;cases hb;cases hq;cases J;exact⟨⟨a,b,f,s⟩,rfl,⟨hb1,hb2,hq1,rK X (by decide)⟩,X⟩
theorem qZ(h:DataW.trod enc Tryz.prog W 0 sp hd fuel 50 cs=some x)(q:Sd 50 x.1):∃(A:Option Addr) (c:Nat) (xs:List S84),cs= [.slice A xs.length c]∧xs.length≤c∧xs.length*40≤140737488351232∧k84.C W A xs.length xs∧∀v∈xs,G84 v:=
 ew k84 z84 40 Tryz.underlying50 (by kernel_rfl) (by kernel_rfl) G84 (fun h q=>by obtain⟨v,e,g⟩:=qh h q;exact⟨v,e▸nx W v,g⟩) h q
theorem pz(h:DataW.trod enc Tryz.prog W 0 sp hd fuel 44 cs=some x)(q:Sd 44 x.1):∃(A:Option Addr) (c:Nat) (xs:List Int),cs= [.slice A xs.length c]∧xs.length≤c∧xs.length*8≤140737488351232∧(Kd.int .i64).C W A xs.length xs∧∀v∈xs,True:=
 ew (Kd.int .i64) (0:Int) 8 Tryz.underlying44 (by kernel_rfl) (by kernel_rfl) (fun _=>True) (fun h _=>by obtain⟨v,e,_⟩:=ia Tryz.underlying3 h;exact⟨v,e,trivial⟩) h q
def G86(v:S86):Prop:=v.f0.size≤140737488351232∧G84 v.f3
theorem qX(h:DataW.trod enc Tryz.prog W 0 sp hd fuel 86 cs=some x)(X:Sd 86 x.1):∃v:S86,k86.K W v cs∧G86 v:=by
 obtain⟨ys,n,_,rfl,V,hyl,G⟩:=sF Tryz.underlying86 h;rw [show Tryz.prog.cellsOf 86=7 from by kernel_rfl]at V;obtain⟨J,Y,Z,U,rfl⟩:=nj hyl;obtain⟨q,c1,c2,c3,c4,c5,c6,rfl⟩:=rf V;have r:DataW.trod enc Tryz.prog W 0 sp hd n 9 (([q,c1,c2,c3,c4,c5,c6].drop 0).take (Tryz.prog.cellsOf 9))=some J:=G 0 _ rfl;rw [show Tryz.prog.cellsOf 9=1 from by kernel_rfl]at r;replace r:DataW.trod enc Tryz.prog W 0 sp hd n 9 [q]=some J:=r;have s0:Sd 9 J.1:=dz Tryz.underlying86 X 0 rfl rfl;have y:DataW.trod enc Tryz.prog W 0 sp hd n 3 (([q,c1,c2,c3,c4,c5,c6].drop 1).take (Tryz.prog.cellsOf 3))=some Y:=G 1 _ rfl;rw [show Tryz.prog.cellsOf 3=1 from by kernel_rfl]at y;replace y:DataW.trod enc Tryz.prog W 0 sp hd n 3 [c1]=some Y:=y;have z:DataW.trod enc Tryz.prog W 0 sp hd n 4 (([q,c1,c2,c3,c4,c5,c6].drop 2).take (Tryz.prog.cellsOf 4))=some Z:=G 2 _ rfl;rw [show Tryz.prog.cellsOf 4=1 from by kernel_rfl]at z;replace z:DataW.trod enc Tryz.prog W 0 sp hd n 4 [c2]=some Z:=z;have D:DataW.trod enc Tryz.prog W 0 sp hd n 84 (([q,c1,c2,c3,c4,c5,c6].drop 3).take (Tryz.prog.cellsOf 84))=some U:=G 3 _ rfl;rw [show Tryz.prog.cellsOf 84=4 from by kernel_rfl]at D;replace D:DataW.trod enc Tryz.prog W 0 sp hd n 84 [c3,c4,c5,c6]=some U:=D;have s3:Sd 84 U.1:=dz Tryz.underlying86 X 3 rfl rfl;obtain⟨a,ha,ha1⟩:=gj r s0;obtain⟨b,hb,_⟩:=ia Tryz.underlying3 y;obtain⟨f,hq⟩:=iX z;obtain⟨v,hv,hv1⟩:=qh D s3;cases ha;cases hb;cases hq;cases hv;exact⟨⟨a,b,f,v⟩,pH W ⟨a,b,f,v⟩,ha1,hv1⟩
theorem q_(h:DataW.trod enc Tryz.prog W 0 sp hd fuel 43 cs=some x)(q:Sd 43 x.1):∃(A:Option Addr) (c:Nat) (xs:List S86),cs= [.slice A xs.length c]∧xs.length≤c∧xs.length*72≤140737488351232∧k86.C W A xs.length xs∧∀v∈xs,G86 v:=
 ew k86 z86 72 Tryz.underlying43 (by kernel_rfl) (by kernel_rfl) G86 qX h q
def G88(v:S88):Prop:=v.f0.size≤140737488351232∧v.f1.length*8≤140737488351232
theorem qW(h:DataW.trod enc Tryz.prog W 0 sp hd fuel 88 cs=some x)(V:Sd 88 x.1):∃v:S88,k88.K W v cs∧G88 v:=by
 obtain⟨ys,n,_,rfl,U,hyl,D⟩:=sF Tryz.underlying88 h;rw [show Tryz.prog.cellsOf 88=3 from by kernel_rfl]at U;obtain⟨G,J,X,rfl⟩:=qm hyl;obtain⟨q,c1,c2,rfl⟩:=qm U;have r:DataW.trod enc Tryz.prog W 0 sp hd n 9 (([q,c1,c2].drop 0).take (Tryz.prog.cellsOf 9))=some G:=D 0 _ rfl;rw [show Tryz.prog.cellsOf 9=1 from by kernel_rfl]at r;replace r:DataW.trod enc Tryz.prog W 0 sp hd n 9 [q]=some G:=r;have s0:Sd 9 G.1:=dz Tryz.underlying88 V 0 rfl rfl;have y:DataW.trod enc Tryz.prog W 0 sp hd n 44 (([q,c1,c2].drop 1).take (Tryz.prog.cellsOf 44))=some J:=D 1 _ rfl;rw [show Tryz.prog.cellsOf 44=1 from by kernel_rfl]at y;replace y:DataW.trod enc Tryz.prog W 0 sp hd n 44 [c1]=some J:=y;have s1:Sd 44 J.1:=dz Tryz.underlying88 V 1 rfl rfl;have z:DataW.trod enc Tryz.prog W 0 sp hd n 4 (([q,c1,c2].drop 2).take (Tryz.prog.cellsOf 4))=some X:=D 2 _ rfl;rw [show Tryz.prog.cellsOf 4=1 from by kernel_rfl]at z;replace z:DataW.trod enc Tryz.prog W 0 sp hd n 4 [c2]=some X:=z;obtain⟨a,Z,am⟩:=gj r s0;obtain⟨A,c,xs,hx,hc,hz,Y,_⟩:=pz y s1;obtain⟨f,hq⟩:=iX z;cases Z;cases hx;cases hq;exact⟨⟨a,xs,f⟩,pG W ⟨a,xs,f⟩ hc Y,am,hz⟩
theorem q9(h:DataW.trod enc Tryz.prog W 0 sp hd fuel 45 cs=some x)(q:Sd 45 x.1):∃(A:Option Addr) (c:Nat) (xs:List S88),cs= [.slice A xs.length c]∧xs.length≤c∧xs.length*48≤140737488351232∧k88.C W A xs.length xs∧∀v∈xs,G88 v:=
 ew k88 z88 48 Tryz.underlying45 (by kernel_rfl) (by kernel_rfl) G88 qW h q
def G90(v:S90):Prop:=v.f1.size≤140737488351232∧v.f0.length*8≤140737488351232
theorem qV(h:DataW.trod enc Tryz.prog W 0 sp hd fuel 90 cs=some x)(U:Sd 90 x.1):∃v:S90,k90.K W v cs∧G90 v:=by
 obtain⟨ys,n,_,rfl,J,hyl,G⟩:=sF Tryz.underlying90 h;rw [show Tryz.prog.cellsOf 90=2 from by kernel_rfl]at J;obtain⟨z,D,rfl⟩:=oL hyl;obtain⟨y,c1,rfl⟩:=oL J;have q:DataW.trod enc Tryz.prog W 0 sp hd n 44 (([y,c1].drop 0).take (Tryz.prog.cellsOf 44))=some z:=G 0 _ rfl;rw [show Tryz.prog.cellsOf 44=1 from by kernel_rfl]at q;replace q:DataW.trod enc Tryz.prog W 0 sp hd n 44 [y]=some z:=q;have s0:Sd 44 z.1:=dz Tryz.underlying90 U 0 rfl rfl;have r:DataW.trod enc Tryz.prog W 0 sp hd n 9 (([y,c1].drop 1).take (Tryz.prog.cellsOf 9))=some D:=G 1 _ rfl;rw [show Tryz.prog.cellsOf 9=1 from by kernel_rfl]at r;replace r:DataW.trod enc Tryz.prog W 0 sp hd n 9 [c1]=some D:=r;have s1:Sd 9 D.1:=dz Tryz.underlying90 U 1 rfl rfl;obtain⟨A,c,xs,hx,Z,hz,V,_⟩:=pz q s0;obtain⟨a,X,Y⟩:=gj r s1;cases X;cases hx;exact⟨⟨xs,a⟩,pF W ⟨xs,a⟩ Z V,Y,hz⟩
theorem q8(h:DataW.trod enc Tryz.prog W 0 sp hd fuel 46 cs=some x)(q:Sd 46 x.1):∃(A:Option Addr) (c:Nat) (xs:List S90),cs= [.slice A xs.length c]∧xs.length≤c∧xs.length*40≤140737488351232∧k90.C W A xs.length xs∧∀v∈xs,G90 v:=
 ew k90 z90 40 Tryz.underlying46 (by kernel_rfl) (by kernel_rfl) G90 qV h q
structure G48 (v:S48):Prop where
 nm:v.f0.size≤140737488351232
 cz:v.f1.length*72≤140737488351232
 cg:∀u∈v.f1,G86 u
 kz:v.f2.length*8≤140737488351232
 xz:v.f3.length*48≤140737488351232
 xg:∀u∈v.f3,G88 u
 rz:v.f4.length*40≤140737488351232
 rg:∀u∈v.f4,G90 u
theorem q7(h:DataW.trod enc Tryz.prog W 0 sp hd fuel 48 cs=some x)(y:Sd 48 x.1):∃v:S48,k48.K W v cs∧G48 v:=by
 obtain⟨ys,n,_,rfl,hl,hyl,r⟩:=sF Tryz.underlying48 h;rw [show Tryz.prog.cellsOf 48=5 from by kernel_rfl]at hl;obtain⟨V,X,Y,Z,y4,rfl⟩:=ql hyl;obtain⟨q,c1,c2,c3,c4,rfl⟩:=ql hl;have z:DataW.trod enc Tryz.prog W 0 sp hd n 9 (([q,c1,c2,c3,c4].drop 0).take (Tryz.prog.cellsOf 9))=some V:=r 0 _ rfl;rw [show Tryz.prog.cellsOf 9=1 from by kernel_rfl]at z;replace z:DataW.trod enc Tryz.prog W 0 sp hd n 9 [q]=some V:=z;have s0:Sd 9 V.1:=dz Tryz.underlying48 y 0 rfl rfl;have D:DataW.trod enc Tryz.prog W 0 sp hd n 43 (([q,c1,c2,c3,c4].drop 1).take (Tryz.prog.cellsOf 43))=some X:=r 1 _ rfl;rw [show Tryz.prog.cellsOf 43=1 from by kernel_rfl]at D;replace D:DataW.trod enc Tryz.prog W 0 sp hd n 43 [c1]=some X:=D;have s1:Sd 43 X.1:=dz Tryz.underlying48 y 1 rfl rfl;have G:DataW.trod enc Tryz.prog W 0 sp hd n 44 (([q,c1,c2,c3,c4].drop 2).take (Tryz.prog.cellsOf 44))=some Y:=r 2 _ rfl;rw [show Tryz.prog.cellsOf 44=1 from by kernel_rfl]at G;replace G:DataW.trod enc Tryz.prog W 0 sp hd n 44 [c2]=some Y:=G;have s2:Sd 44 Y.1:=dz Tryz.underlying48 y 2 rfl rfl;have J:DataW.trod enc Tryz.prog W 0 sp hd n 45 (([q,c1,c2,c3,c4].drop 3).take (Tryz.prog.cellsOf 45))=some Z:=r 3 _ rfl;rw [show Tryz.prog.cellsOf 45=1 from by kernel_rfl]at J;replace J:DataW.trod enc Tryz.prog W 0 sp hd n 45 [c3]=some Z:=J;have s3:Sd 45 Z.1:=dz Tryz.underlying48 y 3 rfl rfl;have U:DataW.trod enc Tryz.prog W 0 sp hd n 46 (([q,c1,c2,c3,c4].drop 4).take (Tryz.prog.cellsOf 46))=some y4:=r 4 _ rfl;rw [show Tryz.prog.cellsOf 46=1 from by kernel_rfl]at U;replace U:DataW.trod enc Tryz.prog W 0 sp hd n 46 [c4]=some y4:=U;have s4:Sd 46 y4.1:=dz Tryz.underlying48 y 4 rfl rfl;obtain⟨a,ha,ha1⟩:=gj z s0;obtain⟨A1,c1,x1,h1,l1,z1,C1,g1⟩:=q_ D s1;obtain⟨A2,c2,x2,h2,l2,z2,C2,_⟩:=pz G s2;obtain⟨A3,c3,x3,h3,l3,z3,C3,g3⟩:=q9 J s3;obtain⟨A4,c4,x4,h4,l4,z4,C4,g4⟩:=q8 U s4;cases ha;cases h1;cases h2;cases h3;cases h4;exact⟨⟨a,x1,x2,x3,x4⟩,pJ W ⟨a,x1,x2,x3,x4⟩ l1 C1 l2 C2 l3 C3 l4 C4,⟨ha1,z1,g1,z2,z3,g3,z4,g4⟩⟩
theorem re(h:DataW.trod enc Tryz.prog W 0 sp hd fuel 22 cs=some x)(q:Sd 22 x.1):∃(A:Option Addr) (c:Nat) (xs:List S48),cs= [.slice A xs.length c]∧xs.length≤c∧xs.length*112≤140737488351232∧k48.C W A xs.length xs∧∀v∈xs,G48 v:=
 ew k48 z48 112 Tryz.underlying22 (by kernel_rfl) (by kernel_rfl) G48 q7 h q
structure G52 (v:S52):Prop where
 key:v.f1.size≤140737488351232
 rz:v.f3.length*40≤140737488351232
 rg:∀u∈v.f3,G84 u
theorem qY(h:DataW.trod enc Tryz.prog W 0 sp hd fuel 52 cs=some x)(X:Sd 52 x.1):∃v:S52,k52.K W v cs∧G52 v:=by
 obtain⟨ys,n,_,rfl,V,hyl,G⟩:=sF Tryz.underlying52 h;rw [show Tryz.prog.cellsOf 52=4 from by kernel_rfl]at V;obtain⟨Y,J,Z,U,rfl⟩:=nj hyl;obtain⟨q,c1,c2,c3,rfl⟩:=nj V;have r:DataW.trod enc Tryz.prog W 0 sp hd n 3 (([q,c1,c2,c3].drop 0).take (Tryz.prog.cellsOf 3))=some Y:=G 0 _ rfl;rw [show Tryz.prog.cellsOf 3=1 from by kernel_rfl]at r;replace r:DataW.trod enc Tryz.prog W 0 sp hd n 3 [q]=some Y:=r;have y:DataW.trod enc Tryz.prog W 0 sp hd n 9 (([q,c1,c2,c3].drop 1).take (Tryz.prog.cellsOf 9))=some J:=G 1 _ rfl;rw [show Tryz.prog.cellsOf 9=1 from by kernel_rfl]at y;replace y:DataW.trod enc Tryz.prog W 0 sp hd n 9 [c1]=some J:=y;have s1:Sd 9 J.1:=dz Tryz.underlying52 X 1 rfl rfl;have z:DataW.trod enc Tryz.prog W 0 sp hd n 4 (([q,c1,c2,c3].drop 2).take (Tryz.prog.cellsOf 4))=some Z:=G 2 _ rfl;rw [show Tryz.prog.cellsOf 4=1 from by kernel_rfl]at z;replace z:DataW.trod enc Tryz.prog W 0 sp hd n 4 [c2]=some Z:=z;have D:DataW.trod enc Tryz.prog W 0 sp hd n 50 (([q,c1,c2,c3].drop 3).take (Tryz.prog.cellsOf 50))=some U:=G 3 _ rfl;rw [show Tryz.prog.cellsOf 50=1 from by kernel_rfl]at D;replace D:DataW.trod enc Tryz.prog W 0 sp hd n 50 [c3]=some U:=D;have s3:Sd 50 U.1:=dz Tryz.underlying52 X 3 rfl rfl;obtain⟨a,ha,_⟩:=ia Tryz.underlying3 r;obtain⟨b,hb,hb1⟩:=gj y s1;obtain⟨f,hq⟩:=iX z;obtain⟨A,c,xs,hx,hc,hz,hC,hg⟩:=qZ D s3;cases ha;cases hb;cases hq;cases hx;exact⟨⟨a,b,f,xs⟩,pI W ⟨a,b,f,xs⟩ hc hC,⟨hb1,hz,hg⟩⟩
theorem rb(h:DataW.trod enc Tryz.prog W 0 sp hd fuel 24 cs=some x)(q:Sd 24 x.1):∃(A:Option Addr) (c:Nat) (xs:List S52),cs= [.slice A xs.length c]∧xs.length≤c∧xs.length*56≤140737488351232∧k52.C W A xs.length xs∧∀v∈xs,G52 v:=
 ew k52 z52 56 Tryz.underlying24 (by kernel_rfl) (by kernel_rfl) G52 qY h q
theorem ra(h:DataW.trod enc Tryz.prog W 0 sp hd fuel 26 cs=some x)(Y:Sd 26 x.1):∃(st:Int) (A:Option Addr) (c:Nat) (xs:List S52),cs= [.int .u64 st, .slice A xs.length c]∧xs.length≤c∧xs.length*56≤140737488351232∧k52.C W A xs.length xs∧∀v∈xs,G52 v:=by
 obtain⟨ys,n,_,rfl,G,am,D⟩:=sF Tryz.underlying26 h;rw [show Tryz.prog.cellsOf 26=2 from by kernel_rfl]at G;obtain⟨J,z,rfl⟩:=oL am;obtain⟨y,c1,rfl⟩:=oL G;have q:DataW.trod enc Tryz.prog W 0 sp hd n 23 (([y,c1].drop 0).take (Tryz.prog.cellsOf 23))=some J:=D 0 _ rfl;rw [show Tryz.prog.cellsOf 23=1 from by kernel_rfl]at q;replace q:DataW.trod enc Tryz.prog W 0 sp hd n 23 [y]=some J:=q;have r:DataW.trod enc Tryz.prog W 0 sp hd n 24 (([y,c1].drop 1).take (Tryz.prog.cellsOf 24))=some z:=D 1 _ rfl;rw [show Tryz.prog.cellsOf 24=1 from by kernel_rfl]at r;replace r:DataW.trod enc Tryz.prog W 0 sp hd n 24 [c1]=some z:=r;have s1:Sd 24 z.1:=dz Tryz.underlying26 Y 1 rfl rfl;obtain⟨a,V⟩:=py Tryz.underlying23 q;obtain⟨A,c,xs,Z,X,hz,U,hg⟩:=rb r s1;cases V;cases Z;exact⟨a,A,c,xs,rfl,X,hz,U,hg⟩
end
end Go.Proofs.YtiphlfpainoeiaaGreatDoor
namespace Go.Proofs.YtiphlfpainoeiaaGreatDoor
open Go.ChangeShapes Go.WideShapes Go.ChangeAt Go.RowKit L Go.Proofs.YtiphlfpainoeiaaGreatDoorW.PrintWords
theorem own:ownKnob Tryz.prog.godebug=none:=by kernel_rfl
theorem lu:laidOutB Tryz.prog=true:=by kernel_rfl
abbrev rrs:OpenSpec:=OpenSpec.ofChange Rows.redoRecordsSpec
theorem u8x:U8Extra Tryz.prog Tryz.lays196_ren:=⟨by kernel_rfl,by kernel_rfl,by kernel_rfl,by kernel_rfl,by kernel_rfl,by kernel_rfl,by kernel_rfl⟩
theorem pQ:(Rows.laid_unicode_utf8_first:DataW Unit)=Go.Lib.firstData:=by kernel_rfl
theorem pV:(Rows.laid_unicode_utf8_acceptRanges:DataW Unit)=Go.Lib.acceptData:=by kernel_rfl
theorem qo{W:World}(y:laidMetH Tryz.prog Rows.redoRecordsRow.laid W)(z:W.ShapedOpen Tryz.prog):GT W:=by
 have h:=(MakeChecks.laidMetH_plain _ _ _ (by kernel_rfl)).mp y;refine⟨?_,?_⟩
 ·have q:Go.Lib.VarReads Tryz.prog W "unicode/utf8.first" Go.Lib.firstData:=by
   have:=Go.Lib.laidMet.reads h (n:= "unicode/utf8.first") (d:=Rows.laid_unicode_utf8_first) (rX _ (rW ..));rw [pQ]at this;exact this
  have r:Go.Lib.VarReads Tryz.prog W "unicode/utf8.acceptRanges" Go.Lib.acceptData:=by
   have:=Go.Lib.laidMet.reads h (n:= "unicode/utf8.acceptRanges") (d:=Rows.laid_unicode_utf8_acceptRanges) (rW ..);rw [pV]at this;exact this
  exact utf8Tabs_of_readsT (U8Types.of196 Tryz.lays196) u8x q r
 ·exact cell_of_shapedOpen_int (P:=Tryz.prog) (g:=5) (t:=3) (zero:= #[.int .i64 0]) z (rQ (by kernel_rfl)) (by kernel_rfl) rfl (by kernel_rfl) (by kernel_rfl) Tryz.underlying3
noncomputable def ei(h:Os):World:=World.laidAll Tryz.prog h Rows.redoRecordsRow.laid
theorem nn(h:Os)(args:Array Value):laidMet Tryz.prog Rows.redoRecordsRow.laid ((ei h).forCall (fun _ _=>0) ⟨#[],args,[]⟩).memory:=laidMet_laidAll _ (by kernel_rfl) (by kernel_rfl)
abbrev gE:Array Value:= #[.slice none 0 0, .agg #[.int .u64 0, .slice none 0 0]]
theorem jt(h:Os){H:Type}(enc:TypeId×Value→H):
 rrs.preRow enc Tryz.prog Tryz.f3 Rows.redoRecordsRow.domain false Rows.redoRecordsRow.laid ((ei h).forCall (fun _ _=>0) ⟨#[],gE,[]⟩).memory gE:=by
 have y:(DataW.whole enc Tryz.prog ((ei h).forCall (fun _ _=>0) ⟨#[],gE,[]⟩).memory Tryz.f3.params.toList rrs.vars false gE.toList 8).map (fun x=>(x.1,x.2.1))=
  some ([.nil, .agg [.lit (.int .u64 0), .nil]],[]):=by kernel_rfl
 obtain⟨⟨D,G,J⟩,z,q⟩:=sd.1 y;simp only [Prod.mk.injEq]at q;obtain⟨rfl,rfl⟩:=q;exact OpenSpec.preRow_of_cond 8 z (by kernel_rfl) (fun k r=>by cases r) (by kernel_rfl) (nn h _)
theorem od(h:Os):((ei h).forCall (fun _ _=>0) ⟨#[],gE,[]⟩).Shaped Tryz.checked.prog:=World.shaped_of_ZipB (by kernel_rfl) (by kernel_rfl)
theorem p_(h:Os):Input.okWideB Tryz.checked.prog ((ei h).forCall (fun _ _=>0) ⟨#[],gE,[]⟩) 3 ⟨#[],gE,[]⟩=true:=by kernel_rfl
theorem oc(h:Os){H:Type}(enc:TypeId×Value→H):∃(w:World) (q:Tape) (i:Input),w.os=h∧(w.forCall q i).Shaped Tryz.checked.prog∧i.vars= []∧Input.okWide Tryz.checked.prog (w.forCall q i) .any w.heap.size 3 i∧
 rrs.preRow enc Tryz.checked.prog Tryz.f3 Rows.redoRecordsRow.domain false Rows.redoRecordsRow.laid (w.forCall q i).memory i.args∧({modest:=false}:Assume).holds Tryz.checked.prog (lone (Frame.enter Tryz.checked.prog 3 i.args .normal) [] (w.forCall q i)):=
 ⟨ei h,fun _ _=>0,⟨#[],gE,[]⟩,World.laidAll_os _ _ _,od h,(Input.okWide_of_okWideB (base:=0) (p_ h)).1,(Input.okWide_of_okWideB (p_ h)).2,jt h enc,by
  simp only [Assume.holds];exact⟨by simp,by simp,fun _=>Modest.zero,by simp,by simp⟩⟩
theorem nc{t:S48}(h:G48 t):df t:=
 ⟨rK h.nm (by decide),fun x q=>⟨rK (h.cg x q).1 (by decide),rK (h.cg x q).2.2 (by decide)⟩,fun x q=>rK (h.xg x q).1 (by decide),fun x q=>rK (h.rg x q).1 (by decide)⟩
theorem oo{t:S48}(h:G48 t):kX 100000000000000 t:=by
 have h1:=h.cz;have r:=h.kz;have y:=h.xz;have z:=h.rz;refine⟨by omega,by omega,by omega,by omega,fun x q=>?_,fun x q=>?_,by omega,by omega⟩;·have:=(h.xg x q).2;omega
 ·have:=(h.rg x q).2;omega
theorem qf{x:S52}(h:G52 x):RC x:=⟨rK h.key (by decide),fun v q=>(h.rg v q).1⟩
set_option maxRecDepth 100000 in
set_option maxHeartbeats 2000000 in
theorem pC(V:Os)(started:V.Started)(H:Type)(enc:TypeId×Value→H)(F:Stop.Interp):
 ReturnsInHanded {} Tryz.checked V 3 .any (rrs.preRow enc Tryz.prog Tryz.f3 Rows.redoRecordsRow.domain false Rows.redoRecordsRow.laid) ((rrs.at F).post enc Tryz.prog Tryz.f3 false true false false):=by
 refine returnsInHanded_of_row (C:=Tryz.checked) (s:=rrs) own started (by kernel_rfl) Tryz.func3
  (oc V enc) ?_
 intro W base args ds gs before hval0 hW _ _ hsz0 hL hsh _;have J:(DataW.weightsEach Tryz.prog (Tryz.f3.params.toList++rrs.bare.plain.varTypes Tryz.prog) (ds++gs)).all (· ≤reachBytes)=true:=hsz0;clear hsz0;have y:∀(j:Nat) t v,Tryz.f3.params[j]? =some t→args[j]? =some v→Value.okWide Tryz.prog W .any base t v:=hval0;have G:=hW;obtain⟨p,q,Z,am,rfl,_,_⟩:=hW;have Y:DataW.TrodAll enc Tryz.prog W 0 (fun _=>true) true Tryz.f3.params.toList args.toList ds p:=Z;rw [Tryz.params3]at Y y J;obtain⟨v0,v1,d0,d1,p0,p1,rfl,rfl,rfl,X,h1⟩:=trodAll_two Y;obtain⟨rfl,rfl⟩:=trodVars_none am;have s0:Sd 22 d0:=fun n hn=>rQ (sh.1 J n (DataW.weights_mem_each (j:=0) (t:=22) (d:=d0) rfl rfl n hn))
 have s1:Sd 26 d1:=fun n hn=>rQ (sh.1 J n (DataW.weights_mem_each (j:=1) (t:=26) (d:=d1) rfl rfl n hn))
 obtain⟨a0,n0,D,rfl⟩:=okWide_slice Tryz.underlying22 (y 0 22 v0 rfl rfl);obtain⟨cs,rfl,_⟩:∃cs,v1= .agg cs∧True:=by
  have:=y 1 26 v1 rfl rfl;unfold Value.okWide at this;rw [Tryz.underlying26]at this;obtain⟨cs,e,_⟩:=this;exact⟨cs,e,trivial⟩
 have h0k:=X;have h1k:=h1;obtain⟨fuel0,hf0⟩:=X;obtain⟨fuel1,hf1⟩:=h1;clear Z am hval0 y;simp only [List.append_nil]at G;have hlt:∀x∈p0++p1,x.block<W.heap.size:=fun x r=>by simpa using G.lt x r
 obtain⟨A,c,l0,e0,hc0,hz0,hC0,hg0⟩:=re hf0 s0;obtain⟨st,B,c1,l1,e1,hc1,hz1,hC1,hg1⟩:=ra hf1 s1;have e0':(Value.slice a0 n0 D)= .slice A l0.length c:=by
  have: [Value.slice a0 n0 D]= [.slice A l0.length c]:=e0;simpa using this
 have e1':(Value.agg cs)= .agg #[.int .u64 st, .slice B l1.length c1]:=by
  have:cs.toList= [.int .u64 st, .slice B l1.length c1]:=e1;rw [←Array.toArray_toList (xs:=cs),this]
 cases e0';cases e1';refine(oP a0 B D c1 l0 st l1 W hC0 hc0 hC1 hc1 (qo hL hsh) (fun t U=>nc (hg0 t U)) (fun x r=>qf (hg1 x r)) 100000000000000 (by omega) (fun t U=>oo (hg0 t U)) (by omega) (fun x r=>by have:=(hg1 x r).rz;omega)).mono ?_;rintro e W' ⟨rfl,z⟩;refine⟨_,rfl,_,_,_,[],p0++p1,[],G,?_,?_,rfl,z.frame _,fun h=>by cases h⟩;·exact trodAll_mk1 (shut_bool Tryz.underlying4 true)
 ·exact trodAll_mk2 (Below.trod lu (by kernel_rfl) (rQ (by kernel_rfl)) h0k z (fun x r=>hlt x (by simp [r]))) (Below.trod lu (by kernel_rfl) (rQ (by kernel_rfl)) h1k z (fun x r=>hlt x (by simp [r])))
theorem fT:Rows.RedoRecordsSaid:=
 OpenClaim.holds_of_cond 3 Tryz.f3 rfl rfl rfl rfl rfl rfl rfl ⟨rfl,rfl,rfl,rfl,rfl⟩ rfl rfl rfl rfl rfl (by kernel_rfl) Tryz.func3 (by kernel_rfl)
  (rQ (by kernel_rfl)) (by unfold Func.isWrapper;rw [rq (of_decide_eq_false (by kernel_rfl))];exact⟨rfl,rfl⟩)
  (fun q r H enc _ h=>by rw [OpenClaim.pre_eq_preRow];exact pC q r H enc h)
end Go.Proofs.YtiphlfpainoeiaaGreatDoor
namespace Go.Proofs.YtiphlfpainoeiaaGreatDoor
open Go
theorem redoRecords_card:Rows.RedoRecordsCardSaid:=
 Claim7.holds_tied_plain_at .later [] [.data, .pinned] true (true, "c273f3c0a96c66e2d70acc6d047c57872291965177917a505abd199bbadbf9a1") false
  fT (fun _ h=>by cases h) (by kernel_rfl) (fun _ h=>by cases h) redoRecords_row_tie rfl ⟨rfl,rfl⟩ (by kernel_rfl) rfl
  (fun f r z D=>by
   obtain rfl:f=3:=rD ((show Tryz.prog.funcNamed "vellum/vellumlaw23.RedoRecords" =some 3 by kernel_rfl).symm.trans z)|>.symm;obtain rfl:r=Tryz.f3:=(rD (Tryz.func3.symm.trans D)).symm;exact⟨by kernel_rfl,fun j t q=>by
    rw [Tryz.params3]at q;have y:t=22∨t=26:=by
     rcases j with _|_|j;·left;simpa using q.symm
     ·right;simpa using q.symm
     ·simp at q
    rcases y with rfl|rfl;·exact(show Tryz.prog.wantsStandIn 22=false by kernel_rfl)
    ·exact(show Tryz.prog.wantsStandIn 26=false by kernel_rfl)⟩)
  (by kernel_rfl)
end Go.Proofs.YtiphlfpainoeiaaGreatDoor
