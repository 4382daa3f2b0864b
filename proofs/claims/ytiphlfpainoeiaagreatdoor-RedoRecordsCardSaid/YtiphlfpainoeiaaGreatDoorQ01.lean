/- Part 1 of the proof that redoRecords_card : Rows.RedoRecordsCardSaid: the record of any commit is what the document says, for every tables and commit that the guards of the statement let in. Short names and spellings throughout: a claim may hold 1,500,000 bytes. -/
import Derived.Below
import Derived.ChangeArms
import Derived.Laws.Rows
import Derived.Laws.World
import Derived.Lib.Hide
import Derived.Lib.Strings
import Derived.Tactics
import Derived.Laws.BitsLemmas
import Derived.RowKit
import Derived.Shelf.Strings.Builder1
import Derived.Shelf.Strings.Search3
import Derived.Shelf.Strings.Replace
import Derived.Shelf.Unicode.ValidAny
import Derived.Shelf.Strconv.Itoa0
import Derived.Test.YtiphlfpainoeiaaGreatDoorProg
import Derived.OrdersHeld
import Derived.Deep.RegionHeld3
import Derived.Deep.Draws
import Derived.Deep.AppendLies
import Derived.Maps.AppendAt
import Derived.OwnWalk
import Derived.Laws.BytesArg
import Derived.Laws.MakeOwn
import Derived.Laws.OwnMore
import Derived.Deep.OwnRows
import Derived.Lib.ConvBytes
import Derived.Laws.Slices
import Derived.WalkKit
import Derived.KernelRfl
import Derived.RowKit3
import Derived.Deep.LoopGhost
import Derived.Deep.QuietTactic
import Derived.BigQuiet
import Derived.WideLaws
import Derived.Deep.DeepCutAuto
import Derived.Deep.CutBlock
import Derived.Lib.AppendStr
import Derived.ArgAppend
import Derived.Laws.IdiomCopy
set_option linter.unusedVariables false
set_option linter.unusedSimpArgs false
namespace Go.Proofs
theorem rn:type_of% @Go.Lib.hid:=@Go.Lib.hid
theorem rp:type_of% @if_pos:=@if_pos
theorem rq:type_of% @if_neg:=@if_neg
theorem rr:type_of% @Go.RowKit.Below.refl:=@Go.RowKit.Below.refl
theorem ru:type_of% @decide_eq_true:=@decide_eq_true
theorem rv:type_of% @Nat.lt_of_lt_of_le:=@Nat.lt_of_lt_of_le
theorem ry:type_of% @beq_eq_false_iff_ne:=@beq_eq_false_iff_ne
theorem rA:type_of% @Nat.le_refl:=@Nat.le_refl
theorem rB:type_of% @Option.bind_eq_some_iff:=@Option.bind_eq_some_iff
theorem rC:type_of% @decide_eq_false:=@decide_eq_false
theorem rD:type_of% @Option.some.inj:=@Option.some.inj
theorem rE:type_of% @Go.World.block_lt_of_cell?:=@Go.World.block_lt_of_cell?
theorem rF:type_of% @eq_true:=@eq_true
theorem rG:type_of% @Option.bind_some:=@Option.bind_some
theorem rH:type_of% @bne_iff_ne:=@bne_iff_ne
theorem rI:type_of% @beq_iff_eq:=@beq_iff_eq
theorem rJ:type_of% @Nat.ne_of_lt:=@Nat.ne_of_lt
theorem rK:type_of% @Nat.le_trans:=@Nat.le_trans
theorem rL:type_of% @List.getElem_mem:=@List.getElem_mem
theorem rM:type_of% @List.take_succ_eq_append_getElem:=@List.take_succ_eq_append_getElem
theorem rN:type_of% @Go.bodyPost_ret:=@Go.bodyPost_ret
theorem rO:type_of% @List.length_append:=@List.length_append
theorem rP:type_of% @Go.heap_alloc_new:=@Go.heap_alloc_new
theorem rQ:type_of% @of_decide_eq_true:=@of_decide_eq_true
theorem rR:type_of% @Nat.zero_le:=@Nat.zero_le
theorem rS:type_of% @List.drop_eq_nil_of_le:=@List.drop_eq_nil_of_le
theorem rT:type_of% @Bool.eq_false_iff:=@Bool.eq_false_iff
theorem rU:type_of% @Go.World.cell?_alloc_lt:=@Go.World.cell?_alloc_lt
theorem rV:type_of% @bne_eq_false_iff_eq:=@bne_eq_false_iff_eq
theorem rW:type_of% @List.mem_cons_self:=@List.mem_cons_self
theorem rX:type_of% @List.mem_cons_of_mem:=@List.mem_cons_of_mem
theorem rY:type_of% @List.take_of_length_le:=@List.take_of_length_le
theorem rZ:type_of% @List.append_assoc:=@List.append_assoc
theorem r7:type_of% @List.eq_nil_of_length_eq_zero:=@List.eq_nil_of_length_eq_zero
theorem r8:type_of% @List.length_take:=@List.length_take
theorem r9:type_of% @List.getElem?_eq_getElem:=@List.getElem?_eq_getElem
theorem r_:type_of% @Nat.pow_succ:=@Nat.pow_succ
theorem sa:type_of% @Nat.le_succ:=@Nat.le_succ
theorem sb:type_of% @List.any_eq_true:=@List.any_eq_true
theorem sc:type_of% @Nat.mul_le_mul_right:=@Nat.mul_le_mul_right
theorem sd:type_of% @Option.map_eq_some_iff:=@Option.map_eq_some_iff
theorem se:type_of% @List.any_append:=@List.any_append
theorem sf:type_of% @Int.tdiv_eq_ediv_of_nonneg:=@Int.tdiv_eq_ediv_of_nonneg
theorem sg:type_of% @Nat.xor_lt_two_pow:=@Nat.xor_lt_two_pow
theorem sh:type_of% @List.all_eq_true:=@List.all_eq_true
theorem si:type_of% @List.getElem?_eq_some_iff:=@List.getElem?_eq_some_iff
theorem sj:type_of% @Nat.le_of_eq:=@Nat.le_of_eq
theorem sk:type_of% @Go.Lib.toList_data:=@Go.Lib.toList_data
theorem sl:type_of% @List.take_length:=@List.take_length
theorem sm:type_of% @Int.toNat_natCast:=@Int.toNat_natCast
theorem sn:type_of% @List.drop_eq_getElem_cons:=@List.drop_eq_getElem_cons
theorem so:type_of% @Go.results_cell_row:=@Go.results_cell_row
theorem sq:type_of% @List.length_drop:=@List.length_drop
theorem sr:type_of% @Int.eq_ofNat_of_zero_le:=@Int.eq_ofNat_of_zero_le
theorem ss:type_of% @List.length_map:=@List.length_map
theorem su:type_of% @Int.tmod_eq_emod_of_nonneg:=@Int.tmod_eq_emod_of_nonneg
theorem sv:type_of% @Nat.mod_eq_of_lt:=@Nat.mod_eq_of_lt
theorem sw:type_of% @List.getElem?_eq_none:=@List.getElem?_eq_none
theorem sx:type_of% @UInt8.toNat_inj:=@UInt8.toNat_inj
theorem sy:type_of% @Nat.le_of_lt:=@Nat.le_of_lt
theorem sA:type_of% @Nat.mul_comm:=@Nat.mul_comm
theorem sB:type_of% @Nat.pow_le_pow_right:=@Nat.pow_le_pow_right
theorem sC:type_of% @Int.emod_eq_of_lt:=@Int.emod_eq_of_lt
theorem sD:type_of% @List.flatMap_cons:=@List.flatMap_cons
theorem sE:type_of% @Classical.not_not:=@Classical.not_not
theorem sF:type_of% @Go.DataW.trod_struct:=@Go.DataW.trod_struct
theorem sG:type_of% @ByteArray.ext:=@ByteArray.ext
theorem sH:type_of% @List.drop_zero:=@List.drop_zero
end Go.Proofs
namespace Go.Proofs.YtiphlfpainoeiaaGreatDoor
theorem bP(n:Int):IntKind.u64.wrap n=n%18446744073709551616:=by simp [IntKind.wrap,IntKind.bits,IntKind.signed]
theorem eA(k:IntKind)(G:k.signed=false)(a b:Nat)(q:a<2^k.bits)(h:b<2^k.bits):
 Go.bits .and k a b=((a&&&b:Nat):Int)∧Go.bits .or k a b=((a|||b:Nat):Int)∧Go.bits .xor k a b=((a^^^b:Nat):Int):=by
 have r:a%2^k.bits=a:=sv q;have y:b%2^k.bits=b:=sv h;have z:∀n:Nat,n<2^k.bits→k.wrap (n:Int)=(n:Int):=by
  intro n hn;have e:((n:Int)%(2^k.bits:Int))=n:=by
   have D:((2:Int)^k.bits)=((2^k.bits:Nat):Int):=(by simp);rw [D]
   exact_mod_cast sv hn
  simp only [IntKind.wrap,G,Bool.false_and];exact e
 refine⟨?_,?_,?_⟩
 ·simp only [Go.bits,BitVec.ofInt_natCast,BitVec.toNat_and,BitVec.toNat_ofNat,r,y]
  exact z _ (Nat.and_lt_two_pow _ h)
 ·simp only [Go.bits,BitVec.ofInt_natCast,BitVec.toNat_or,BitVec.toNat_ofNat,r,y]
  exact z _ (Nat.or_lt_two_pow q h)
 ·simp only [Go.bits,BitVec.ofInt_natCast,BitVec.toNat_xor,BitVec.toNat_ofNat,r,y]
  exact z _ (sg q h)
theorem u32_and(a b:Nat)(h:a<2^32)(q:b<2^32):Go.bits .and .u32 a b=((a&&&b:Nat):Int):=(eA .u32 rfl a b h q).1
theorem u32_xor(a b:Nat)(h:a<2^32)(q:b<2^32):Go.bits .xor .u32 a b=((a^^^b:Nat):Int):=(eA .u32 rfl a b h q).2.2
theorem u8_or(a b:Nat)(h:a<2^8)(q:b<2^8):Go.bits .or .u8 a b=((a|||b:Nat):Int):=(eA .u8 rfl a b h q).2.1
theorem u8_xor(a b:Nat)(h:a<2^8)(q:b<2^8):Go.bits .xor .u8 a b=((a^^^b:Nat):Int):=(eA .u8 rfl a b h q).2.2
theorem u64_and(a b:Nat)(h:a<2^64)(q:b<2^64):Go.bits .and .u64 a b=((a&&&b:Nat):Int):=(eA .u64 rfl a b h q).1
theorem u64_or(a b:Nat)(h:a<2^64)(q:b<2^64):Go.bits .or .u64 a b=((a|||b:Nat):Int):=(eA .u64 rfl a b h q).2.1
theorem u64_xor(a b:Nat)(h:a<2^64)(q:b<2^64):Go.bits .xor .u64 a b=((a^^^b:Nat):Int):=(eA .u64 rfl a b h q).2.2
end Go.Proofs.YtiphlfpainoeiaaGreatDoor
namespace Go.Proofs.YtiphlfpainoeiaaGreatDoor.Crc
def P:Nat:=2197175160
def st(x:Nat):Nat:=if x%2=1 then(x/2)^^^P else x/2
def stN:Nat→Nat→Nat
 |0,x=>x
 |n+1,x=>stN n (st x)
theorem mG(x y:Nat):(x^^^y)/2=x/2^^^y/2:=by
 simpa [Nat.shiftRight_eq_div_pow]using Nat.shiftRight_xor_distrib (a:=x) (b:=y) (i:=1)
theorem mF(x y:Nat):(x^^^y)%2=(x%2+y%2)%2:=by
 have h:=Nat.xor_mod_two_pow (a:=x) (b:=y) (n:=1);simp only [Nat.pow_one]at h;rw [h];rcases Nat.mod_two_eq_zero_or_one x with q|q<;>rcases Nat.mod_two_eq_zero_or_one y with r|r<;>simp [q,r]
theorem po(x y:Nat):st (x^^^y)=st x^^^st y:=by
 unfold st;rw [mG,mF];rcases Nat.mod_two_eq_zero_or_one x with h|h<;>rcases Nat.mod_two_eq_zero_or_one y with q|q<;>simp only [h,q]
 ·simp
 ·simp [Nat.xor_assoc]
 ·simp only [Nat.reduceAdd,Nat.reduceMod,if_true]
  simp only [show(0:Nat)≠1 from by decide,if_false];rw [Nat.xor_assoc,Nat.xor_assoc,Nat.xor_comm P]
 ·simp only [Nat.reduceAdd,Nat.reduceMod,if_true]
  rw [rq (by decide)];rw [Nat.xor_assoc,←Nat.xor_assoc P,Nat.xor_comm P (y/2),Nat.xor_assoc (y/2),Nat.xor_self,Nat.xor_zero]
theorem ox(n:Nat):∀x y,stN n (x^^^y)=stN n x^^^stN n y:=by
 induction n with
 |zero=>intro x y;rfl
 |succ n h=>intro x y;simp only [stN,po,h]
theorem lR(h:Nat):st (2*h)=h:=by
 unfold st;rw [rq (by omega)];omega
theorem lS(n:Nat):∀h,stN n (2^n*h)=h:=by
 induction n with
 |zero=>intro h;simp [stN]
 |succ n q=>
  intro h;have:2^(n+1)*h=2*(2^n*h):=by rw [r_];simp only [Nat.mul_assoc,Nat.mul_left_comm,Nat.mul_comm]
  simp only [stN];rw [this,lR,q]
theorem pr(x:Nat):x=(256*(x/256))^^^(x%256):=by
 have q:2^8*(x/2^8)+x%2^8=2^8*(x/2^8)|||x%2^8:=Nat.two_pow_add_eq_or_of_lt (Nat.mod_lt x (by decide)) (x/2^8);apply Nat.eq_of_testBit_eq;intro i;have r:x=2^8*(x/2^8)|||x%2^8:=by rw [←q];exact(Nat.div_add_mod x (2^8)).symm
 have e:x.testBit i=((2^8*(x/2^8)).testBit i||(x%2^8).testBit i):=by
  rw [←Nat.testBit_or];exact congrArg (fun z=>Nat.testBit z i) r
 rw [e,Nat.testBit_xor];show((2^8*(x/2^8)).testBit i||(x%2^8).testBit i)=((2^8*(x/2^8)).testBit i^^(x%2^8).testBit i);rw [Nat.testBit_two_pow_mul,Nat.testBit_mod_two_pow];by_cases h:i<8;·simp [h,show¬8≤i from by omega]
 ·simp [h]
theorem st8(x c:Nat)(h:c<256):stN 8 (x^^^c)=x/256^^^stN 8 (x%256^^^c):=by
 conv=>lhs;rw [pr x]
 rw [Nat.xor_assoc,ox];congr 1;exact lS 8 (x/256)
theorem qe(x:Nat)(h:x<2^32):st x<2^32:=by
 unfold st P;split;·exact sg (by omega) (by decide)
 ·omega
theorem pq(n:Nat):∀x,x<2^32→stN n x<2^32:=by
 induction n with
 |zero=>intro x h;exact h
 |succ n q=>intro x h;exact q _ (qe x h)
def go(l:List UInt8)(n:Nat):Nat:=l.foldl (fun n c=>stN 8 (n^^^c.toNat)) n
theorem rm(l:List UInt8):∀n,n<2^32→go l n<2^32:=by
 induction l with
 |nil=>intro n h;exact h
 |cons c l q=>
  intro n h;exact q _ (pq 8 _ (sg h (Nat.lt_trans c.toNat_lt (by decide))))
def sum(l:List UInt8):Nat:=go l 4294967295^^^4294967295
end Go.Proofs.YtiphlfpainoeiaaGreatDoor.Crc
namespace Go.Proofs
open Go.Shelf
def Tryz.lays169_ren:Go.Shelf.Ren:=⟨fun|169=>33|n=>n,fun|70=>65|9=>9|0=>0|72=>68|37=>66|127=>140|3=>3|5=>5|n=>n,fun|n=>n⟩
theorem Tryz.lays169:Go.Proofs.Lays.n169 Tryz.prog Tryz.lays169_ren:={
 mixed:=by kernel_rfl
 f169:=Tryz.func33.trans (congrArg some (by kernel_rfl))
 t0:=Tryz.underlying0
 a0:=Tryz.isAgg0
 z0:=Tryz.sizeOf0
 v0:=Tryz.zeroValue0
 t3:=Tryz.underlying3
 a3:=Tryz.isAgg3
 z3:=Tryz.sizeOf3
 v3:=Tryz.zeroValue3
 t9:=Tryz.underlying9
 a9:=Tryz.isAgg9
 z9:=Tryz.sizeOf9
 v9:=Tryz.zeroValue9
 t37:=Tryz.underlying66
 a37:=Tryz.isAgg66
 z37:=Tryz.sizeOf66
 v37:=Tryz.zeroValue66
 t70:=Tryz.underlying65
 a70:=Tryz.isAgg65
 z70:=Tryz.sizeOf65
 v70:=Tryz.zeroValue65
 t72:=Tryz.underlying68
 a72:=Tryz.isAgg68
 z72:=Tryz.sizeOf68
 v72:=Tryz.zeroValue68
 t127:=Tryz.underlying140
 a127:=Tryz.isAgg140
 z127:=Tryz.sizeOf140
 v127:=Tryz.zeroValue140}
theorem Tryz.Builder_Extra_169:Builder.Extra Tryz.prog Tryz.lays169_ren:={
 sizeBuilder:=by kernel_rfl
 liesBuilder:=by kernel_rfl
 t5:=Tryz.underlying5
 a5:=Tryz.isAgg5
 z5:=Tryz.sizeOf5
 v5:=Tryz.zeroValue5
 infoByte:=by kernel_rfl
 cellsByte:=by kernel_rfl
 sizeByte:=by kernel_rfl
 neB5:=by decide}
open Go.RowKit in
theorem Tryz.Builder_String_any(B b:Nat)(l:List UInt8)(w:World)(h:Lib.IsBuilder 68 5 B b (Lib.byteCells l) w)(q:B≤w.heap.size):
 Calls Tryz.prog 33 #[.pointer (some ⟨b,0,none⟩)] w fun e r=>e= .returned (.string ⟨l.toArray⟩)∧Below B w r:=Any.Builder_String_any Tryz.lays169 Tryz.Builder_Extra_169 B b l w h q
def Tryz.lays144_ren:Go.Shelf.Ren:=⟨fun|144=>148|143=>158|219=>173|217=>189|225=>190|224=>191|267=>192|266=>212|314=>213|n=>n,fun|9=>9|4=>4|3=>3|5=>5|46=>80|146=>300|51=>41|n=>n,fun|1=>5|n=>n⟩
theorem Tryz.lays144:Go.Proofs.Lays.n144 Tryz.prog Tryz.lays144_ren:={
 mixed:=by kernel_rfl
 f143:=Tryz.func158.trans (congrArg some (by kernel_rfl))
 f144:=Tryz.func148.trans (congrArg some (by kernel_rfl))
 f217:=Tryz.func189.trans (congrArg some (by kernel_rfl))
 f219:=Tryz.func173.trans (congrArg some (by kernel_rfl))
 f224:=Tryz.func191.trans (congrArg some (by kernel_rfl))
 f225:=Tryz.func190.trans (congrArg some (by kernel_rfl))
 f266:=Tryz.func212.trans (congrArg some (by kernel_rfl))
 f267:=Tryz.func192.trans (congrArg some (by kernel_rfl))
 f314:=Tryz.func213.trans (congrArg some (by kernel_rfl))
 t3:=Tryz.underlying3
 a3:=Tryz.isAgg3
 z3:=Tryz.sizeOf3
 v3:=Tryz.zeroValue3
 t4:=Tryz.underlying4
 a4:=Tryz.isAgg4
 z4:=Tryz.sizeOf4
 v4:=Tryz.zeroValue4
 t5:=Tryz.underlying5
 a5:=Tryz.isAgg5
 z5:=Tryz.sizeOf5
 v5:=Tryz.zeroValue5
 t9:=Tryz.underlying9
 a9:=Tryz.isAgg9
 z9:=Tryz.sizeOf9
 v9:=Tryz.zeroValue9
 t46:=Tryz.underlying80
 a46:=Tryz.isAgg80
 z46:=Tryz.sizeOf80
 v46:=Tryz.zeroValue80
 t51:=Tryz.underlying41
 a51:=Tryz.isAgg41
 z51:=Tryz.sizeOf41
 v51:=Tryz.zeroValue41
 t146:=Tryz.underlying300
 a146:=Tryz.isAgg300
 z146:=Tryz.sizeOf300
 v146:=Tryz.zeroValue300
 g1:=by kernel_rfl}
open Go.RowKit Go.Lib in
theorem Tryz.strings_Contains(s h:ByteArray)(m:Int)(w:World)(r:s.size<4294967281)(q:w.cell? ⟨5,0,none⟩=some (.int .i64 m)):
 Calls Tryz.prog 148 #[.string s, .string h] w fun e y=>e= .returned (.bool (Lib.contains s.data.toList h.data.toList))∧y=w:=Any.strings_Contains Tryz.lays144 s h m w r q
def Tryz.lays155_ren:Go.Shelf.Ren:=⟨fun|155=>103|154=>134|138=>157|165=>104|143=>158|166=>28|197=>159|169=>33|195=>171|218=>172|240=>55|241=>135|219=>173|260=>174|276=>80|277=>160|217=>189|225=>190|224=>191|267=>192|266=>212|314=>213|n=>n,fun|9=>9|3=>3|4=>4|72=>68|0=>0|76=>71|105=>256|21=>21|5=>5|70=>65|20=>20|37=>66|75=>70|127=>140|164=>182|46=>80|119=>240|139=>243|138=>242|146=>300|51=>41|80=>77|n=>n,fun|1=>5|3=>2|4=>3|n=>n⟩
theorem Tryz.lays155:Go.Proofs.Lays.n155 Tryz.prog Tryz.lays155_ren:={
 mixed:=by kernel_rfl
 f138:=Tryz.func157.trans (congrArg some (by kernel_rfl))
 f143:=Tryz.func158.trans (congrArg some (by kernel_rfl))
 f154:=Tryz.func134.trans (congrArg some (by kernel_rfl))
 f155:=Tryz.func103.trans (congrArg some (by kernel_rfl))
 f165:=Tryz.func104.trans (congrArg some (by kernel_rfl))
 f166:=Tryz.func28.trans (congrArg some (by kernel_rfl))
 f169:=Tryz.func33.trans (congrArg some (by kernel_rfl))
 f195:=Tryz.func171.trans (congrArg some (by kernel_rfl))
 f197:=Tryz.func159.trans (congrArg some (by kernel_rfl))
 f217:=Tryz.func189.trans (congrArg some (by kernel_rfl))
 f218:=Tryz.func172.trans (congrArg some (by kernel_rfl))
 f219:=Tryz.func173.trans (congrArg some (by kernel_rfl))
 f224:=Tryz.func191.trans (congrArg some (by kernel_rfl))
 f225:=Tryz.func190.trans (congrArg some (by kernel_rfl))
 f240:=Tryz.func55.trans (congrArg some (by kernel_rfl))
 f241:=Tryz.func135.trans (congrArg some (by kernel_rfl))
 f260:=Tryz.func174.trans (congrArg some (by kernel_rfl))
 f266:=Tryz.func212.trans (congrArg some (by kernel_rfl))
 f267:=Tryz.func192.trans (congrArg some (by kernel_rfl))
 f276:=Tryz.func80.trans (congrArg some (by kernel_rfl))
 f277:=Tryz.func160.trans (congrArg some (by kernel_rfl))
 f314:=Tryz.func213.trans (congrArg some (by kernel_rfl))
 t0:=Tryz.underlying0
 a0:=Tryz.isAgg0
 z0:=Tryz.sizeOf0
 v0:=Tryz.zeroValue0
 t3:=Tryz.underlying3
 a3:=Tryz.isAgg3
 z3:=Tryz.sizeOf3
 v3:=Tryz.zeroValue3
 t4:=Tryz.underlying4
 a4:=Tryz.isAgg4
 z4:=Tryz.sizeOf4
 v4:=Tryz.zeroValue4
 t5:=Tryz.underlying5
 a5:=Tryz.isAgg5
 z5:=Tryz.sizeOf5
 v5:=Tryz.zeroValue5
 t9:=Tryz.underlying9
 a9:=Tryz.isAgg9
 z9:=Tryz.sizeOf9
 v9:=Tryz.zeroValue9
 t20:=Tryz.underlying20
 a20:=Tryz.isAgg20
 z20:=Tryz.sizeOf20
 v20:=Tryz.zeroValue20
 t21:=Tryz.underlying21
 a21:=Tryz.isAgg21
 z21:=Tryz.sizeOf21
 v21:=Tryz.zeroValue21
 t37:=Tryz.underlying66
 a37:=Tryz.isAgg66
 z37:=Tryz.sizeOf66
 v37:=Tryz.zeroValue66
 t46:=Tryz.underlying80
 a46:=Tryz.isAgg80
 z46:=Tryz.sizeOf80
 v46:=Tryz.zeroValue80
 t51:=Tryz.underlying41
 a51:=Tryz.isAgg41
 z51:=Tryz.sizeOf41
 v51:=Tryz.zeroValue41
 t70:=Tryz.underlying65
 a70:=Tryz.isAgg65
 z70:=Tryz.sizeOf65
 v70:=Tryz.zeroValue65
 t72:=Tryz.underlying68
 a72:=Tryz.isAgg68
 z72:=Tryz.sizeOf68
 v72:=Tryz.zeroValue68
 t75:=Tryz.underlying70
 a75:=Tryz.isAgg70
 z75:=Tryz.sizeOf70
 v75:=Tryz.zeroValue70
 t76:=Tryz.underlying71
 a76:=Tryz.isAgg71
 z76:=Tryz.sizeOf71
 v76:=Tryz.zeroValue71
 t105:=Tryz.underlying256
 a105:=Tryz.isAgg256
 z105:=Tryz.sizeOf256
 v105:=Tryz.zeroValue256
 t119:=Tryz.underlying240
 a119:=Tryz.isAgg240
 z119:=Tryz.sizeOf240
 t127:=Tryz.underlying140
 a127:=Tryz.isAgg140
 z127:=Tryz.sizeOf140
 v127:=Tryz.zeroValue140
 t138:=Tryz.underlying242
 a138:=Tryz.isAgg242
 z138:=Tryz.sizeOf242
 v138:=Tryz.zeroValue242
 t139:=Tryz.underlying243
 a139:=Tryz.isAgg243
 z139:=Tryz.sizeOf243
 v139:=Tryz.zeroValue243
 t146:=Tryz.underlying300
 a146:=Tryz.isAgg300
 z146:=Tryz.sizeOf300
 v146:=Tryz.zeroValue300
 t164:=Tryz.underlying182
 a164:=Tryz.isAgg182
 z164:=Tryz.sizeOf182
 v164:=Tryz.zeroValue182
 g1:=by kernel_rfl
 g3:=by kernel_rfl
 g4:=by kernel_rfl}
theorem Tryz.Builder_Extra_155:Builder.Extra Tryz.prog Tryz.lays155_ren:={
 sizeBuilder:=by kernel_rfl
 liesBuilder:=by kernel_rfl
 t5:=Tryz.underlying5
 a5:=Tryz.isAgg5
 z5:=Tryz.sizeOf5
 v5:=Tryz.zeroValue5
 infoByte:=by kernel_rfl
 cellsByte:=by kernel_rfl
 sizeByte:=by kernel_rfl
 neB5:=by decide}
open Go.RowKit Go.Lib in
theorem Tryz.strings_ReplaceAll(s old h:ByteArray)(m:Int)(w:World)(y:s.size<4294967281)(r:w.cell? ⟨5,0,none⟩=some (.int .i64 m))(h1:1≤old.size)(q:s.size+Lib.countB s old*h.size≤140737488355328):
 Calls Tryz.prog 103 #[.string s, .string old, .string h] w fun e z=>
  e= .returned (.string ⟨(Lib.replaceAll s.data.toList old.data.toList h.data.toList).toArray⟩)∧Below w.heap.size w z:=Any.strings_ReplaceAll Tryz.lays155 Tryz.Builder_Extra_155 s old h m w y r h1 q
def Tryz.lays196_ren:Go.Shelf.Ren:=⟨fun|196=>110|259=>145|n=>n,fun|9=>9|4=>4|3=>3|5=>5|12=>12|119=>240|0=>0|46=>80|139=>243|138=>242|53=>23|n=>n,fun|3=>2|4=>3|n=>n⟩
theorem Tryz.lays196:Go.Proofs.Lays.n196 Tryz.prog Tryz.lays196_ren:={
 mixed:=by kernel_rfl
 f196:=Tryz.func110.trans (congrArg some (by kernel_rfl))
 f259:=Tryz.func145.trans (congrArg some (by kernel_rfl))
 t0:=Tryz.underlying0
 a0:=Tryz.isAgg0
 z0:=Tryz.sizeOf0
 v0:=Tryz.zeroValue0
 t3:=Tryz.underlying3
 a3:=Tryz.isAgg3
 z3:=Tryz.sizeOf3
 v3:=Tryz.zeroValue3
 t4:=Tryz.underlying4
 a4:=Tryz.isAgg4
 z4:=Tryz.sizeOf4
 v4:=Tryz.zeroValue4
 t5:=Tryz.underlying5
 a5:=Tryz.isAgg5
 z5:=Tryz.sizeOf5
 v5:=Tryz.zeroValue5
 t9:=Tryz.underlying9
 a9:=Tryz.isAgg9
 z9:=Tryz.sizeOf9
 v9:=Tryz.zeroValue9
 t12:=Tryz.underlying12
 a12:=Tryz.isAgg12
 z12:=Tryz.sizeOf12
 v12:=Tryz.zeroValue12
 t46:=Tryz.underlying80
 a46:=Tryz.isAgg80
 z46:=Tryz.sizeOf80
 v46:=Tryz.zeroValue80
 t53:=Tryz.underlying23
 a53:=Tryz.isAgg23
 z53:=Tryz.sizeOf23
 v53:=Tryz.zeroValue23
 t119:=Tryz.underlying240
 a119:=Tryz.isAgg240
 z119:=Tryz.sizeOf240
 t138:=Tryz.underlying242
 a138:=Tryz.isAgg242
 z138:=Tryz.sizeOf242
 v138:=Tryz.zeroValue242
 t139:=Tryz.underlying243
 a139:=Tryz.isAgg243
 z139:=Tryz.sizeOf243
 v139:=Tryz.zeroValue243
 g3:=by kernel_rfl
 g4:=by kernel_rfl}
open Go.RowKit in
theorem Tryz.utf8_ValidString(s:ByteArray)(w:World)(q:s.size≤9223372036854775807)(h:Lib.Utf8Tabs (Tryz.lays196_ren.g 3) (Tryz.lays196_ren.g 4) w):
 Calls Tryz.prog 110 #[.string s] w fun e r=>e= .returned (.bool (Lib.validD s.data.toList))∧Below w.heap.size w r:=Any.utf8_ValidString Tryz.lays196 s w q h
def Tryz.lays167_ren:Go.Shelf.Ren:=⟨fun|167=>31|240=>55|276=>80|n=>n,fun|9=>9|3=>3|4=>4|72=>68|0=>0|76=>71|105=>256|21=>21|5=>5|70=>65|20=>20|37=>66|75=>70|127=>140|164=>182|46=>80|119=>240|139=>243|138=>242|146=>300|51=>41|80=>77|n=>n,fun|1=>5|3=>2|4=>3|n=>n⟩
theorem Tryz.lays167:Go.Proofs.Lays.n167 Tryz.prog Tryz.lays167_ren:={
 mixed:=Tryz.lays155.mixed
 f167:=Tryz.func31.trans (congrArg some (by kernel_rfl))
 f240:=Tryz.func55.trans (congrArg some (by kernel_rfl))
 f276:=Tryz.func80.trans (congrArg some (by kernel_rfl))
 t0:=Tryz.lays155.t0
 a0:=Tryz.lays155.a0
 z0:=Tryz.lays155.z0
 v0:=Tryz.lays155.v0
 t4:=Tryz.lays155.t4
 a4:=Tryz.lays155.a4
 z4:=Tryz.lays155.z4
 v4:=Tryz.lays155.v4
 t5:=Tryz.lays155.t5
 a5:=Tryz.lays155.a5
 z5:=Tryz.lays155.z5
 v5:=Tryz.lays155.v5
 t9:=Tryz.lays155.t9
 a9:=Tryz.lays155.a9
 z9:=Tryz.lays155.z9
 v9:=Tryz.lays155.v9
 t20:=Tryz.lays155.t20
 a20:=Tryz.lays155.a20
 z20:=Tryz.lays155.z20
 v20:=Tryz.lays155.v20
 t37:=Tryz.lays155.t37
 a37:=Tryz.lays155.a37
 z37:=Tryz.lays155.z37
 v37:=Tryz.lays155.v37
 t70:=Tryz.lays155.t70
 a70:=Tryz.lays155.a70
 z70:=Tryz.lays155.z70
 v70:=Tryz.lays155.v70
 t72:=Tryz.lays155.t72
 a72:=Tryz.lays155.a72
 z72:=Tryz.lays155.z72
 v72:=Tryz.lays155.v72
 t75:=Tryz.lays155.t75
 a75:=Tryz.lays155.a75
 z75:=Tryz.lays155.z75
 v75:=Tryz.lays155.v75
 t164:=Tryz.lays155.t164
 a164:=Tryz.lays155.a164
 z164:=Tryz.lays155.z164
 v164:=Tryz.lays155.v164}
theorem Tryz.Builder_Extra_167:Builder.Extra Tryz.prog Tryz.lays167_ren:={
 sizeBuilder:=by kernel_rfl
 liesBuilder:=by kernel_rfl
 t5:=Tryz.underlying5
 a5:=Tryz.isAgg5
 z5:=Tryz.sizeOf5
 v5:=Tryz.zeroValue5
 infoByte:=by kernel_rfl
 cellsByte:=by kernel_rfl
 sizeByte:=by kernel_rfl
 neB5:=by decide}
open Go.RowKit in
theorem Tryz.Builder_WriteByte(B b:Nat)(q:List Value)(c:Int)(w:World)(h:Lib.IsBuilder 68 5 B b q w)(z:q.length+1≤140737488355328)(y:B≤w.heap.size):
 Calls Tryz.prog 31 #[.pointer (some ⟨b,0,none⟩), .int .u8 c] w fun e r=>e= .returned .nilIface∧(Lib.BuilderAt 68 5 B b (.pointer (some ⟨b,0,none⟩)) (q++ [.int .u8 c]) r∧Below B w r):=Any.Builder_WriteByte Tryz.lays167 Tryz.Builder_Extra_167 B b q c w h z y
def Tryz.lays129_ren:Go.Shelf.Ren:=⟨fun|129=>165|n=>n,fun|53=>23|3=>3|4=>4|46=>80|5=>5|9=>9|n=>n,fun|n=>n⟩
theorem Tryz.lays129:Go.Proofs.Lays.n129 Tryz.prog Tryz.lays129_ren:={
 mixed:=by kernel_rfl
 f129:=Tryz.func165.trans (congrArg some (by kernel_rfl))
 t3:=Tryz.underlying3
 a3:=Tryz.isAgg3
 z3:=Tryz.sizeOf3
 v3:=Tryz.zeroValue3
 t4:=Tryz.underlying4
 a4:=Tryz.isAgg4
 z4:=Tryz.sizeOf4
 v4:=Tryz.zeroValue4
 t5:=Tryz.underlying5
 a5:=Tryz.isAgg5
 z5:=Tryz.sizeOf5
 v5:=Tryz.zeroValue5
 t9:=Tryz.underlying9
 a9:=Tryz.isAgg9
 z9:=Tryz.sizeOf9
 v9:=Tryz.zeroValue9
 t46:=Tryz.underlying80
 a46:=Tryz.isAgg80
 z46:=Tryz.sizeOf80
 v46:=Tryz.zeroValue80
 t53:=Tryz.underlying23
 a53:=Tryz.isAgg23
 z53:=Tryz.sizeOf23
 v53:=Tryz.zeroValue23}
theorem Tryz.bits_Len64(x:Int)(w:World)(h:0≤x)(h1:x≤18446744073709551615):
 Calls Tryz.prog 165 #[.int .u64 x] w fun e q=>e= .returned (.int .i64 (Lib.bitLen x.toNat))∧q=w:=Any.bits_Len64 Tryz.lays129 x w h h1
end Go.Proofs
namespace Go.Proofs.YtiphlfpainoeiaaGreatDoorW.PrintLast
section
variable {P:Program} {ops:Array Oper} {Q:Exit→Act→World→Prop} {md:Region.Mode} {S:World→Prop} {ds:List Nat}
def Region.reachB(md:Region.Mode)(ops:Array Oper)(i:Nat):Nat→Nat→Bool
 |0,_=>false
 |fuel+1,d=>match ops[d]? with
  |some o=>o.after.any fun e=>Region.binds md e&&(e.on==i||Region.reachB md ops i fuel e.on)
  |none=>false
def Region.closedB(md:Region.Mode)(ops:Array Oper)(h:Array Bool):Bool:=
 (List.range ops.size).all fun j=> !h.getD j false||match ops[j]? with
  |some o=>o.after.all fun e=> !Region.binds md e||h.getD e.on false
  |none=>true
def Region.lastB(md:Region.Mode)(ops:Array Oper)(h:Array Bool)(ds:List Nat)(i:Nat):Bool:=
 ds.all fun d=>h.getD d true||Region.reachB md ops i ops.size d
def dB(md:Region.Mode)(ops:Array Oper)(h:Array Bool):Prop:=
 ∀j q,ops[j]? =some q→h.getD j false=true→∀e∈q.after,Region.binds md e=true→h.getD e.on false=true
theorem Region.closedB_spec{r:Array Bool}(h:Region.closedB md ops r=true):dB md ops r:=by
 intro j U q G e D z;have J:j<ops.size:=(Array.getElem?_eq_some_iff.1 q).1;have h1:=sh.1 h j (List.mem_range.2 J);simp only [G,q,Bool.not_true,Bool.false_or]at h1;have y:=Array.all_eq_true_iff_forall_mem.1 h1 e D;simpa [z]using y
theorem dB.set{q:Array Bool}{i:Nat}(h:dB md ops q)(hi:i∈Region.ready md ops q):dB md ops (q.setIfInBounds i true):=by
 obtain⟨_,oi,V,U⟩:=mem_ready.1 hi;intro j J D G e y r;by_cases z:i=j
 ·subst z
  have:J=oi:=rD (D.symm.trans V);subst this;exact getD_set_true (U e y r)
 ·rw [getD_set_ne false z]at G
  exact getD_set_true (h j J D G e y r)
theorem Region.reach_listed{r:Array Bool}{i:Nat}(y:dB md ops r):∀(fuel d:Nat),Region.reachB md ops i fuel d=true→r.getD d false=true→r.getD i false=true
 |0,_,h,_=>by simp [Region.reachB]at h
 |fuel+1,d,h,G=>by
  unfold Region.reachB at h;cases ho:ops[d]? with
  |none=>rw [ho]at h;simp at h
  |some o=>
   rw [ho]at h;obtain⟨e,D,h1⟩:=Array.any_eq_true'.1 h;simp only [Bool.and_eq_true,Bool.or_eq_true,beq_iff_eq]at h1;have z:=y d o ho G e D h1.1;rcases h1.2 with q|q;·rw [←q];exact z
   ·exact Region.reach_listed y fuel e.on q z
theorem Region.reach_not_ready{h:Array Bool}{i d fuel:Nat}(G:dB md ops h)(hr:Region.reachB md ops i fuel d=true)(y:h.getD i true=false):d∉Region.ready md ops h:=by
 intro hd;obtain⟨_,o,ho,D⟩:=mem_ready.1 hd;have hi:h.getD i false=true:=by
  cases fuel with
  |zero=>simp [Region.reachB]at hr
  |succ n=>
   unfold Region.reachB at hr;rw [ho]at hr;obtain⟨e,J,h1⟩:=Array.any_eq_true'.1 hr;simp only [Bool.and_eq_true,Bool.or_eq_true,beq_iff_eq]at h1;have z:=D e J h1.1;rcases h1.2 with r|r;·rw [←r];exact z
   ·exact Region.reach_listed G n e.on r z
 rcases Nat.lt_or_ge i h.size with q|q
 ·simp [q]at y hi
  rw [y]at hi;cases hi
 ·simp [Array.getElem?_eq_none q]at y
def bg(P:Program)(md:Region.Mode)(ops:Array Oper)(Q:Exit→Act→World→Prop)(S:World→Prop)(ds:List Nat):Nat→Array Bool→Act→World→Prop
 |0,h,a,w=>Region.ready md ops h= []∧Q .normal a w
 |fuel+1,h,a,w=>
  (Region.ready md ops h= []→Q .normal a w)∧
  ∀i∈Region.ready md ops h,wpOp P ops Q i (fun a' q=>(i∉ds→S w→S q)∧bg P md ops Q S ds fuel (h.setIfInBounds i true) a' q) a w
theorem fy:∀(fuel:Nat) (q:Array Bool) (a:Act) (w:World),bg P md ops Q S ds fuel q a w→wpAny P md ops Q fuel q a w
 |0,_,_,_,h=>h
 |fuel+1,_,_,_,h=>⟨h.1,fun i hi=>wpOp_mono (fun a' y r=>fy fuel _ a' y r.2) (h.2 i hi)⟩
theorem gF{i:Nat}{oi:Oper}{v:Value}(hi:ops[i]? =some oi)(hsel:∀(j:Nat) (o:Oper) cs b,ops[j]? =some o→o.op≠ .select cs b)
 (hQ:∀c a w,Q (.panic c) (a.put oi.dst v) w→Q (.panic c) a w)(n:Nat):
 ∀(fuel:Nat) (q:Array Bool) (a:Act) (w:World),
  (∀j y,ops[j]? =some y→j≠i→q.getD j true=false→(∀e∈y.after,Region.binds md e=true→e.on≠i)→oi.apart ops y=true)→
  dB md ops q→(∀d∈ds,q.getD d true=false→Region.reachB md ops i n d=true)→
  i∈Region.ready md ops q→YieldsIf P ops S oi v a→S w→
  bg P md ops Q S ds fuel (q.setIfInBounds i true) (a.put oi.dst v) w→bg P md ops Q S ds (fuel+1) q a w:=by
 intro fuel
 induction fuel with
 |zero=>
  intro q a w _ _ _ hr X U H;refine⟨fun h=>(by rw [h]at hr;cases hr),fun j z=>?_⟩;by_cases r:j=i;·subst r;exact X.wpOp hi U ⟨fun _ h=>h,H⟩
  ·have:=ready_mono z r
   rw [H.1]at this;cases this
 |succ fuel ih=>
  intro q a w hfree hc hd hr X U H;refine⟨fun h=>(by rw [h]at hr;cases hr),fun j z=>?_⟩;by_cases r:j=i;·subst r;exact X.wpOp hi U ⟨fun _ h=>h,H⟩
  ·have h1:=H.2 j (ready_mono z r)
   obtain⟨V,y,hoj,hall⟩:=mem_ready.1 z;have Z:=(mem_ready.1 hr).1;have hnot:∀e∈y.after,Region.binds md e=true→e.on≠i:=fun e he hb heq=>by
    have h1:=hall e he hb;rw [heq]at h1;rcases Nat.lt_or_ge i q.size with Y|Y;·simp [Y]at Z h1;rw [Z]at h1;cases h1
    ·simp [Array.getElem?_eq_none Y]at h1
   have hjd:j∉ds:=fun hm=>Region.reach_not_ready hc (hd j hm V) Z z
   have h2:=wpOp_putIf hoj (hfree j y hoj r V hnot) (fun cs b=>hsel i oi cs b hi) (fun cs b=>hsel j y cs b hoj) hQ X h1;have hfree':∀k ok,ops[k]? =some ok→k≠i→(q.setIfInBounds j true).getD k true=false→
    (∀e∈ok.after,Region.binds md e=true→e.on≠i)→oi.apart ops ok=true:=fun k ok hk hki G hno=>by
    refine hfree k ok hk hki ?_ hno;by_cases D:j=k;·subst D;exact V
    ·rw [getD_set_ne true D]at G;exact G
   have hd':∀d∈ds,(q.setIfInBounds j true).getD d true=false→Region.reachB md ops i n d=true:=fun d hm G=>by
    refine hd d hm ?_;by_cases D:j=d;·subst D;exact V
    ·rw [getD_set_ne true D]at G;exact G
   refine wpOp_mono (fun a' w' J=>⟨J.2.1,ih (q.setIfInBounds j true) a' w' hfree' (hc.set z) hd' (ready_mono hr (Ne.symm r)) J.1 (J.2.1 hjd U) ?_⟩) h2;rw [Array.setIfInBounds_comm _ _ r];exact J.2.2
theorem iy{i:Nat}{oi:Oper}{v:Value}(hi:ops[i]? =some oi)(am:∀(j:Nat) (o:Oper) cs b,ops[j]? =some o→o.op≠ .select cs b)
 (hQ:∀c a w,Q (.panic c) (a.put oi.dst v) w→Q (.panic c) a w):
 ∀(fuel:Nat) (q:Array Bool) (a:Act) (w:World),
  (∀j y,ops[j]? =some y→j≠i→q.getD j true=false→(∀e∈y.after,Region.binds md e=true→e.on≠i)→oi.apart ops y=true)→
  i∈Region.ready md ops q→Yields P ops oi v a→
  bg P md ops Q S ds fuel (q.setIfInBounds i true) (a.put oi.dst v) w→bg P md ops Q S ds (fuel+1) q a w:=by
 intro fuel
 induction fuel with
 |zero=>
  intro q a w _ hr D H;refine⟨fun h=>(by rw [h]at hr;cases hr),fun j z=>?_⟩;by_cases r:j=i;·subst r;exact(D.yieldsIf (S:=fun _=>True)).wpOp hi trivial ⟨fun _ h=>h,H⟩
  ·have:=ready_mono z r
   rw [H.1]at this;cases this
 |succ fuel ih=>
  intro q a w V hr D H;refine⟨fun h=>(by rw [h]at hr;cases hr),fun j z=>?_⟩;by_cases r:j=i;·subst r;exact(D.yieldsIf (S:=fun _=>True)).wpOp hi trivial ⟨fun _ h=>h,H⟩
  ·have h1:=H.2 j (ready_mono z r)
   obtain⟨Z,y,U,hall⟩:=mem_ready.1 z;have X:=(mem_ready.1 hr).1;have hnot:∀e∈y.after,Region.binds md e=true→e.on≠i:=fun e he hb heq=>by
    have h1:=hall e he hb;rw [heq]at h1;rcases Nat.lt_or_ge i q.size with G|G;·simp [G]at X h1;rw [X]at h1;cases h1
    ·simp [Array.getElem?_eq_none G]at h1
   have h2:=wpOp_put U (V j y U r Z hnot) (fun cs b=>am i oi cs b hi) (fun cs b=>am j y cs b U) hQ D h1;have hfree':∀k ok,ops[k]? =some ok→k≠i→(q.setIfInBounds j true).getD k true=false→
    (∀e∈ok.after,Region.binds md e=true→e.on≠i)→oi.apart ops ok=true:=fun k ok hk hki ap hno=>by
    refine V k ok hk hki ?_ hno;by_cases Y:j=k;·subst Y;exact Z
    ·rw [getD_set_ne true Y]at ap;exact ap
   refine wpOp_mono (fun a' w' J=>⟨J.2.1,ih (q.setIfInBounds j true) a' w' hfree' (ready_mono hr (Ne.symm r)) J.1 ?_⟩) h2;rw [Array.setIfInBounds_comm _ _ r];exact J.2.2
theorem gY{i:Nat}{oi:Oper}{v:Value}{fuel:Nat}{q:Array Bool}{a:Act}{w:World}(hi:ops[i]? =some oi)
 (U:Region.noSelect ops=true)(D:Region.free md ops q i=true)(hr:(Region.ready md ops q).contains i=true)
 (z:Region.closedB md ops q=true)(G:Region.lastB md ops q ds i=true)
 (r:∀c a w,Q (.panic c) (a.put oi.dst v) w→Q (.panic c) a w)(X:YieldsIf P ops S oi v a)(y:S w)
 (h:bg P md ops Q S ds fuel (q.setIfInBounds i true) (a.put oi.dst v) w):bg P md ops Q S ds (fuel+1) q a w:=
 gF hi (Region.noSelect_spec U) r ops.size fuel q a w (Region.free_spec hi D) (Region.closedB_spec z)
  (fun d J V=>by have:=sh.1 G d J;rw [V]at this;simpa using this) (by simpa using hr) X y h
theorem iz{rs:List Nat}{fuel:Nat}{q:Array Bool}{a:Act}{w:World}(hr:Region.ready md ops q=rs)(z:rs≠ [])
 (h:∀i∈rs,wpOp P ops Q i (fun a' r=>(i∉ds→S w→S r)∧bg P md ops Q S ds fuel (q.setIfInBounds i true) a' r) a w):bg P md ops Q S ds (fuel+1) q a w:=
 ⟨fun y=>absurd (hr▸y) z,hr▸h⟩
theorem gZ{q:Array Bool}{a:Act}{w:World}(hr:Region.ready md ops q= [])(h:Q .normal a w):
 ∀fuel,bg P md ops Q S ds fuel q a w
 |0=>⟨hr,h⟩
 |_+1=>⟨fun _=>h,by rw [hr];simp⟩
theorem gX{id:Nat}{a:Act}{w:World}(q:P.follows .mixedOrders=true)
 (h:bg P .any ops Q S ds ops.size (Array.replicate ops.size false) a {w with drawn:=w.drawn+1}):(Code.region id ops true).wp P Q a w:=
 wp_region_any q (fy _ _ _ _ h)
end
section
variable {P:Program} {ops:Array Oper} {Q:Exit→Act→World→Prop} {md:Region.Mode} {S:World→Prop} {ds:List Nat}
def cE(P:Program)(md:Region.Mode)(ops:Array Oper)(Q:Exit→Act→World→Prop)(S:World→Prop)(ds:List Nat)(fuel:Nat)(q:Array Bool)(a:Act)(w:World)(rs:List Nat):Prop:=
 ∀i∈rs,wpOp P ops Q i (fun a' h=>(i∉ds→S w→S h)∧bg P md ops Q S ds fuel (q.setIfInBounds i true) a' h) a w
theorem cE.nil{fuel:Nat}{q:Array Bool}{a:Act}{w:World}:cE P md ops Q S ds fuel q a w []:=fun _ h=>by cases h
theorem cE.cons{fuel:Nat}{y:Array Bool}{a:Act}{w:World}{i:Nat}{o:Oper}{rs:List Nat}(ho:ops[i]? =some o)(hd:i∉ds)
 (h:∀q:Act→World→Prop,Shut (∀a w,S w→(S w→bg P md ops Q S ds fuel (y.setIfInBounds i true) a w)→q a w)→if Region.wanted o (yielded ops a.tmps)=true then Oper.wp P o a w q Q else q (a.put o.dst undef) w)
 (J:cE P md ops Q S ds fuel y a w rs):cE P md ops Q S ds fuel y a w (i::rs):=fun j r=>by
 rcases List.mem_cons.1 r with rfl|r;·exact wpOp_step ho (fun q D=>h q (fun a w z G=>D a w ⟨fun _ _=>z,G z⟩))
 ·exact J j r
theorem cE.cons_last{fuel:Nat}{y:Array Bool}{a:Act}{w:World}{i:Nat}{o:Oper}{rs:List Nat}(ho:ops[i]? =some o)(hd:i∈ds)
 (h:∀q:Act→World→Prop,Shut (∀a w,bg P md ops Q S ds fuel (y.setIfInBounds i true) a w→q a w)→if Region.wanted o (yielded ops a.tmps)=true then Oper.wp P o a w q Q else q (a.put o.dst undef) w)
 (G:cE P md ops Q S ds fuel y a w rs):cE P md ops Q S ds fuel y a w (i::rs):=fun j r=>by
 rcases List.mem_cons.1 r with rfl|r;·exact wpOp_step ho (fun q z=>h q (fun a w D=>z a w ⟨fun hn=>absurd hd hn,D⟩))
 ·exact G j r
theorem eb{rs:List Nat}{fuel:Nat}{q:Array Bool}{a:Act}{w:World}(hr:Region.ready md ops q=rs)(r:rs≠ [])
 (h:cE P md ops Q S ds fuel q a w rs):bg P md ops Q S ds (fuel+1) q a w:=iz hr r h
theorem cH{id n:Nat}{a:Act}{w:World}(l:Array Bool)(y:P.follows .mixedOrders=true)(hn:ops.size=n)(r:Array.replicate n false=l)(q:S w.drew)
 (h:S w.drew→bg P .any ops Q S ds n l a w.drew):(Code.region id ops true).wp P Q a w:=by
 subst hn;subst r;exact gX y (h q)
def takeB(md:Region.Mode)(ops:Array Oper)(ds:List Nat)(l l':Array Bool)(i:Nat):Bool:=
 Region.noSelect ops&&Region.free md ops l i&&(Region.ready md ops l).contains i&&Region.closedB md ops l&&Region.lastB md ops l ds i&&(l.setIfInBounds i true==l')
theorem o8{i:Nat}{N:Option Tmp}{oi:Oper}{v:Value}{fuel:Nat}{l:Array Bool}{a:Act}{w:World}(l':Array Bool)(hi:ops[i]? =some oi)(J:oi.dst=N)(q:takeB md ops ds l l' i=true)
 (U:∀c a w,Q (.panic c) (a.put oi.dst v) w→Q (.panic c) a w)(Y:YieldsIf P ops S oi v a)(V:S w){a':Act}(X:a.put N v=a')
 (h:bg P md ops Q S ds fuel l' a' w):bg P md ops Q S ds (fuel+1) l a w:=by
 subst X;subst J;simp only [takeB,Bool.and_eq_true,beq_iff_eq]at q;obtain⟨⟨⟨⟨⟨h1,r⟩,y⟩,z⟩,D⟩,G⟩:=q;subst G;exact gY hi h1 r y z D U Y V h
def nX(md:Region.Mode)(ops:Array Oper)(l l':Array Bool)(i:Nat):Bool:=
 Region.noSelect ops&&Region.free md ops l i&&(Region.ready md ops l).contains i&&(l.setIfInBounds i true==l')
theorem gA{i:Nat}{N:Option Tmp}{oi:Oper}{v:Value}{fuel:Nat}{l:Array Bool}{a:Act}{w:World}(l':Array Bool)(hi:ops[i]? =some oi)(D:oi.dst=N)(q:nX md ops l l' i=true)
 (G:∀c a w,Q (.panic c) (a.put oi.dst v) w→Q (.panic c) a w)(U:Yields P ops oi v a){a':Act}(J:a.put N v=a')
 (h:bg P md ops Q S ds fuel l' a' w):bg P md ops Q S ds (fuel+1) l a w:=by
 subst J;subst D;simp only [nX,Bool.and_eq_true,beq_iff_eq]at q;obtain⟨⟨⟨h1,r⟩,y⟩,z⟩:=q;subst z;exact iy hi (Region.noSelect_spec h1) G fuel l a w (Region.free_spec hi r) (by simpa using y) U h
def fJ(md:Region.Mode)(ops:Array Oper)(l l':Array Bool)(i:Nat):Bool:=(Region.ready md ops l== [i])&&(l.setIfInBounds i true==l')
theorem qi{i:Nat}{N:Option Tmp}{oi:Oper}{fuel:Nat}{l:Array Bool}{a:Act}{w:World}(l':Array Bool)(hi:ops[i]? =some oi)(D:oi.dst=N)(r:fJ md ops l l' i=true)(hd:i∉ds)
 (h:∀K:Act→World→Prop,Shut (∀a' q,S q→(S q→bg P md ops Q S ds fuel l' a' q)→K a' q)→if Region.wanted oi (yielded ops a.tmps)=true then Oper.wp P oi a w K Q else K (a.put N undef) w):
 bg P md ops Q S ds (fuel+1) l a w:=by
 subst D;simp only [fJ,Bool.and_eq_true,beq_iff_eq]at r;obtain⟨h1,y⟩:=r;subst y;exact eb h1 (by simp) (cE.cons hi hd (fun K z=>h K z) cE.nil)
theorem jN{i:Nat}{N:Option Tmp}{oi:Oper}{fuel:Nat}{l:Array Bool}{a:Act}{w:World}(l':Array Bool)(hi:ops[i]? =some oi)(D:oi.dst=N)(q:fJ md ops l l' i=true)(hd:i∈ds)
 (h:∀K:Act→World→Prop,Shut (∀a' r,bg P md ops Q S ds fuel l' a' r→K a' r)→if Region.wanted oi (yielded ops a.tmps)=true then Oper.wp P oi a w K Q else K (a.put N undef) w):
 bg P md ops Q S ds (fuel+1) l a w:=by
 subst D;simp only [fJ,Bool.and_eq_true,beq_iff_eq]at q;obtain⟨h1,y⟩:=q;subst y;exact eb h1 (by simp) (cE.cons_last hi hd (fun K z=>h K z) cE.nil)
theorem dp{l:Array Bool}{a:Act}{w:World}{n:Nat}(hr:(Region.ready md ops l== [])=true)(h:Q .normal a w):bg P md ops Q S ds n l a w:=gZ (by simpa using hr) h n
theorem qN{i j:Nat}{Ni Nj:Option Tmp}{oi q:Oper}{fuel:Nat}{l:Array Bool}{a:Act}{w:World}(li lj:Array Bool)(hi:ops[i]? =some oi)(Z:ops[j]? =some q)(U:oi.dst=Ni)(V:q.dst=Nj)
 (y:(Region.ready md ops l== [i,j]&&l.setIfInBounds i true==li&&l.setIfInBounds j true==lj)=true)(X:i∉ds)(Y:j∉ds)
 (h1:∀K:Act→World→Prop,Shut (∀a' h,S h→(S h→bg P md ops Q S ds fuel li a' h)→K a' h)→if Region.wanted oi (yielded ops a.tmps)=true then Oper.wp P oi a w K Q else K (a.put Ni undef) w)
 (z:∀K:Act→World→Prop,Shut (∀a' h,S h→(S h→bg P md ops Q S ds fuel lj a' h)→K a' h)→if Region.wanted q (yielded ops a.tmps)=true then Oper.wp P q a w K Q else K (a.put Nj undef) w):
 bg P md ops Q S ds (fuel+1) l a w:=by
 subst U;subst V;simp only [Bool.and_eq_true,beq_iff_eq]at y;obtain⟨⟨D,G⟩,J⟩:=y;subst G;subst J;exact eb D (by simp) (cE.cons hi X (fun K r=>h1 K r) (cE.cons Z Y (fun K r=>z K r) cE.nil))
def gi:Act→List (Tmp×Value)→Act
 |a,[]=>a
 |a,(n,v)::r=>gi (a.put (some n) v) r
theorem qn{σ:Type}{fuel:Nat}{l:Array Bool}{a:Act}{w:World}(r:Nat)(l':Array Bool)(y:σ→List (Tmp×Value))(F:σ→World→Prop)
 (z:∀s q,F s q→bg P md ops Q S ds r l' (gi a (y s)) q)
 (h:(∀s q,F s q→bg P md ops Q S ds r l' (gi a (y s)) q)→bg P md ops Q S ds fuel l a w):bg P md ops Q S ds fuel l a w:=h z
theorem lp{fuel:Nat}{l:Array Bool}{a a':Act}{w:World}(q:a=a')(h:bg P md ops Q S ds fuel l a' w):bg P md ops Q S ds fuel l a w:=by
 subst q;exact h
theorem qy{oi:Oper}{N:Option Tmp}{a:Act}{w:World}{K:Act→World→Prop}(f:FuncId)(args:Array Value)(D:Region.wanted oi (yielded ops a.tmps)=true)(q:oi.dst=N)(z:(execOp a.eval oi).run P w= .ok (.enter f args) w)
 (h:Calls P f args w fun e G=>∃v,e= .returned v∧K (a.put N v) G):if Region.wanted oi (yielded ops a.tmps)=true then Oper.wp P oi a w K Q else K (a.put N undef) w:=by
 rw [rp D];subst q;unfold Oper.wp;rw [z,Oper.upon_enter];refine h.mono fun e J r=>?_
 obtain⟨v,rfl,y⟩:=r;exact y
theorem ly{f:FuncId}{h:Func}(y:P.funcs[f]? =some h)(z:(h.name== "runtime.NumGoroutine")=false)(q:h.body.isSome=true)(args:Array Value)(w:World):(callFunc f args).run P w= .ok (.enter f args) w:=by
 have h1:h.name≠ "runtime.NumGoroutine" :=by simpa using z
 obtain⟨c,r⟩:=Option.isSome_iff_exists.1 q;simp [callFunc,y,h1,r]
theorem dQ{oi:Oper}{N:Option Tmp}{a:Act}{w:World}{K:Act→World→Prop}{f:FuncId}{q:Func}{r:Array Operand}{Y:Array TypeId}(J:P.funcs[f]? =some q)(U:(q.name== "runtime.NumGoroutine")=false)(D:q.body.isSome=true)(args:Array Value)
 (X:Region.wanted oi (yielded ops a.tmps)=true)(y:oi.dst=N)(V:oi.op= .call {callee:= .value (.func f),args:=r,argTypes:=Y})(z:r.map a.eval=args)
 (h:Calls P f args w fun e Z=>∃v,e= .returned v∧K (a.put N v) Z):if Region.wanted oi (yielded ops a.tmps)=true then Oper.wp P oi a w K Q else K (a.put N undef) w:=by
 refine qy f args X y ?_ h;have G:=ly J U D args w;unfold execOp;simp [V,resolve,Deferred.ofValue,invoke,Act.eval,z,G]
theorem ee{rest:List Oper}{oi:Oper}{a:Act}{w:World}(N:Option Tmp)(hd:oi.dst=N)(hg:oi.guard=none){f:FuncId}{q:Func}{r:Array Operand}{ts:Array TypeId}(J:P.funcs[f]? =some q)(X:(q.name== "runtime.NumGoroutine")=false)(D:q.body.isSome=true)(args:Array Value)
 (Y:oi.op= .call {callee:= .value (.func f),args:=r,argTypes:=ts})(z:r.map a.eval=args)
 (h:Calls P f args w fun e w'=>∃v,e= .returned v∧wpList P ops Q rest (a.put N v) w'):wpList P ops Q (oi::rest) a w:=by
 refine wpList_plain hg fun K y=>?_
 have G:=ly J X D args w;have Z:(execOp a.eval oi).run P w= .ok (.enter f args) w:=by
  unfold execOp;simp [Y,resolve,Deferred.ofValue,invoke,Act.eval,z,G]
 unfold Oper.wp;rw [Z,Oper.upon_enter];refine h.mono fun e w'' U=>?_
 obtain⟨v,rfl,V⟩:=U;subst hd;exact y _ _ V
theorem fG{oi:Oper}{N:Option Tmp}{a:Act}{w w1:World}{v:Value}{K:Act→World→Prop}(y:Region.wanted oi (yielded ops a.tmps)=true)(q:oi.dst=N)(r:(execOp a.eval oi).run P w= .ok (.value v) w1)
 (h:K (a.put N v) w1):if Region.wanted oi (yielded ops a.tmps)=true then Oper.wp P oi a w K Q else K (a.put N undef) w:=by
 rw [rp y];subst q;unfold Oper.wp;rw [r];exact h
theorem eZ{oi:Oper}{a:Act}{w w1:World}{K:Act→World→Prop}(y:Region.wanted oi (yielded ops a.tmps)=true)(q:oi.dst=none)(r:(execOp a.eval oi).run P w= .ok .skip w1)
 (h:K a w1):if Region.wanted oi (yielded ops a.tmps)=true then Oper.wp P oi a w K Q else K (a.put none undef) w:=by
 rw [rp y];unfold Oper.wp;rw [r];show K (a.put oi.dst undef) w1;rw [q];exact h
theorem dI(n:Int):IntKind.i64.wrap n=Go.RowKit.wrap64 n:=by unfold Go.RowKit.wrap64;exact IntKind.wrap_i64 n
theorem fb(n:Int):IntKind.i32.wrap n=Go.RowKit.wrap32 n:=by unfold Go.RowKit.wrap32;exact IntKind.wrap_i32 n
end
end Go.Proofs.YtiphlfpainoeiaaGreatDoorW.PrintLast
namespace Go.Proofs.YtiphlfpainoeiaaGreatDoorW.PrintWords
open Go.RowKit
structure aa (p:Prop):Prop where mk::(out:p)
structure bM (w h:World):Prop where mk::(out:∃n,h=w.drewN n)
theorem bM.refl(w:World):bM w w:=⟨⟨0,rfl⟩⟩
theorem bM.step{w q:World}(h:bM w q)(n:Nat):bM w (q.drewN n):=by
 obtain⟨m,rfl⟩:=h;exact⟨⟨m+n,World.drewN_drewN ..⟩⟩
def rd(xs:List Int)(i:Int):Int:=xs.getD i.toNat 0
def bt(s:ByteArray)(i:Int):Int:=if h:i.toNat<s.size then((s[i.toNat]'h).toNat:Int)else 0
theorem dy(s:ByteArray)(i:Int):∀h:i.toNat<s.size,((s[i.toNat]'h).toNat:Int)=bt s i:=fun h=>by simp [bt,h]
theorem fh(s:ByteArray)(i:Int):0≤bt s i∧bt s i≤255:=by
 unfold bt;split
 ·rename_i h
  have:=(s[i.toNat]'h).toNat_lt;omega
 ·omega
def ib(k:IntKind)(xs:List Int):List Value:=xs.map fun x=> .int k x
theorem jK(k:IntKind)(xs ys:List Int):ib k (xs++ys)=ib k xs++ib k ys:=by simp [ib]
theorem ai{w W:World}(h:Below w.heap.size w W)(o:Obj):Below w.heap.size w (W.alloc o):=h.alloc h.size o
theorem eB{B:Nat}{w W:World}(h:Below B w W):Below B w W.drew:=⟨h.os,h.tape,h.output,h.size,h.block⟩
theorem aq{B:Nat}{w W:World}(h:Below B w W)(n:Nat):Below B w (W.drewN n):=⟨h.os,h.tape,h.output,h.size,h.block⟩
theorem iw{B:Nat}{w w1 q:World}(h:Below B w w1)(hB:B≤w1.heap.size)(k:Below w1.heap.size w1 q):Below B w q:=
 h.trans ⟨k.os,k.tape,k.output,k.size,fun i hi=>k.block i (rv hi hB)⟩
theorem ij{w w1:World}(h:Below w.heap.size w w1)(row:Option Nat):w.grownBy w1 row:=⟨h.os,h.tape,h.output,h.size,fun i hi _=>h.block i hi⟩
theorem aj{w w1:World}(h:Below w.heap.size w w1){a:Addr}{v:Value}(q:w.cell? a=some v):w1.cell? a=some v:=(h.cell (rE w a q)).trans q
theorem add_plain(g j:Nat):(⟨g,0,none⟩:Addr).add j=⟨g,j,none⟩:=by unfold Addr.add;split<;>simp_all
theorem lh(W:World)(base:Nat)(e:TypeId)(size:Nat):W.ownsRow base e size (.slice none 0 0) 0 []:=⟨by simp, .inl ⟨rfl,rfl⟩⟩
theorem eS{w:World}{base:Nat}{e:TypeId}{size n:Nat}{v:Value}{xs:List Value}(h:w.ownsRow base e size v n xs)(k:Nat)(q:v.ownBlock=some k):base≤k:=by
 rcases h.2 with⟨rfl,_⟩|⟨g,cap,r,rfl,y,_⟩;·simp [Value.ownBlock]at q
 ·have:g=k:=by simpa [Value.ownBlock]using q
  omega
theorem kA{w:World}{base:Nat}{e:TypeId}{size n:Nat}{v:Value}{xs:List Value}(h:w.ownsRow base e size v n xs)(k:Nat)(q:v.ownBlock=some k):k<w.heap.size:=by
 rcases h.2 with⟨rfl,_⟩|⟨g,cap,y,rfl,z,r,_⟩;·simp [Value.ownBlock]at q
 ·have:g=k:=by simpa [Value.ownBlock]using q
  subst this;exact(Array.getElem?_eq_some_iff.1 r).1
theorem iU{w w1:World}{base:Nat}{e:TypeId}{size n:Nat}{v:Value}{xs:List Value}(h:w.ownsRow base e size v n xs)(q:Below w.heap.size w w1):w1.ownsRow base e size v n xs:=
 h.kept (ij q none) (by cases v.ownBlock<;>simp)
theorem lZ{w:World}{base n:Nat}{e:TypeId}{size:Nat}{v:Value}{xs:List Value}(h:w.ownsRow base e size v n xs):∃A c,v= .slice A n c:=by
 rcases h.2 with⟨rfl,rfl⟩|⟨g,cap,q,rfl,_⟩;·exact⟨none,0,rfl⟩
 ·exact⟨_,cap,rfl⟩
theorem dk{P:Program}{w:World}{base n:Nat}{e' src q e:TypeId}{v:Value}{xs:List Int}(z:P.underlying src=some (.slice e))(r:P.underlying e=some (.int .u8))(hd:P.underlying q=some .string)
 (h:w.ownsRow base e' 1 v n (ib .u8 xs)):(convert src q v).run P w= .ok (.string (strOfNums xs)) w:=by
 have y:xs.length=n:=by have:=h.1;simp [ib]at this;exact this
 rcases h.2 with⟨rfl,rfl⟩|⟨g,cap,J,rfl,_⟩
 ·obtain rfl:xs= []:=r7 y
  exact run_convert_bytes_nil w src e z r 0 0 q hd
 ·refine run_convert_bytes_arg w src e z r g 0 n cap xs y (fun i hi=>?_) q hd
  have G:=h.cells (g:=g) rfl i (.int .u8 (xs.getD i 0)) (by simp [ib,List.getElem?_eq_getElem (show i<xs.length by omega),List.getD_eq_getElem?_getD]);have D:(⟨g,0,none⟩:Addr).add i=⟨g,0+i,none⟩:=by unfold Addr.add;split<;>simp_all
  rwa [D]at G
def br(s:ByteArray):List Int:=s.data.toList.map fun b=>(b.toNat:Int)
theorem cG(s:ByteArray):s.data.toList.length=s.size:=by rw [Array.length_toList];rfl
theorem bS(s:ByteArray):(br s).length=s.size:=by rw [br,ss,cG]
theorem hZ(s:ByteArray)(i:Int):rd (br s) i=bt s i:=by
 unfold rd bt br;split
 ·rename_i h
  have q:i.toNat<s.data.toList.length:=by rw [cG];exact h
  simp [List.getD_eq_getElem?_getD,List.getElem?_eq_getElem q];rfl
 ·rename_i h
  have q:s.data.toList.length≤i.toNat:=by rw [cG];omega
  simp [List.getD_eq_getElem?_getD,List.getElem?_eq_none q]
def LeO{α:Type}(a b:Option α):Prop:=∀r,a=some r→b=some r
theorem LeO.refl{α:Type}(a:Option α):LeO a a:=fun _ h=>h
theorem LeO.ite{α:Type}{c:Prop} [Decidable c]{a a' b b':Option α}(h:LeO a a')(k:LeO b b'):LeO (if c then a else b) (if c then a' else b'):=by
 split;·exact h
 ·exact k
theorem LeO.bind{α β:Type}{a a':Option α}{f q:α→Option β}(h:LeO a a')(k:∀x,LeO (f x) (q x)):LeO (a.bind f) (a'.bind q):=by
 intro r hr;obtain⟨x,z,y⟩:=rB.1 hr;exact rB.2 ⟨x,h x z,k x r y⟩
def dg{α:Type}(R:α→List Value→Prop)(size:Nat)(ps:List α)(cs:List Value):Prop:=
 cs.length=ps.length*size∧∀j p,ps[j]? =some p→R p ((cs.drop (j*size)).take size)
theorem dg.none{α:Type}(R:α→List Value→Prop)(size:Nat):dg R size [] []:=⟨by simp,fun j p h=>by simp at h⟩
theorem dg.snoc{α:Type}{R:α→List Value→Prop}{size:Nat}{ps:List α}{cs c:List Value}{p:α}(h:dg R size ps cs)(hp:R p c)(z:c.length=size):dg R size (ps++ [p]) (cs++c):=by
 refine⟨by rw [rO,h.1,z,rO,List.length_singleton,Nat.add_mul,Nat.one_mul],fun j q r=>?_⟩;rcases Nat.lt_or_ge j ps.length with y|y
 ·rw [List.getElem?_append_left y]at r
  have h1:j*size+size≤cs.length:=by rw [h.1,←Nat.succ_mul];exact sc _ y
  have D:=h.2 j q r;rw [List.drop_append_of_le_length (by omega),List.take_append_of_le_length (by rw [sq];omega)];exact D
 ·have G:j=ps.length:=by
   have:=(si.1 r).1;rw [rO,List.length_singleton]at this;omega
  subst G;have J:p=q:=by simpa using r
  subst J;rw [←h.1,List.drop_left,←z,List.take_length];exact hp
theorem dg.imp_{α:Type}{R R':α→List Value→Prop}{size:Nat}{ps:List α}{cs:List Value}(h:dg R size ps cs)(q:∀p c,R p c→R' p c):dg R' size ps cs:=⟨h.1,fun j p r=>q _ _ (h.2 j p r)⟩
def dj{α:Type}(R:α→List Value→Prop)(size:Nat)(w:World)(A:Option Addr)(n:Nat)(ps:List α):Prop:=
 ps.length=n∧n≤9223372036854775807∧(0<n→∃ad,A=some ad∧∀j p,ps[j]? =some p→∃c,c.length=size∧R p c∧∀i u,c[i]? =some u→w.cell? (ad.add (j*size+i))=some u)
theorem dj.get_{α:Type}{R:α→List Value→Prop}{size:Nat}{w:World}{A:Option Addr}{n:Nat}{ps:List α}(h:dj R size w A n ps)(d:α)(i:Int)(D:0≤i)(h1:i<n):
 ∃ad c,A=some ad∧c.length=size∧R (ps.getD i.toNat d) c∧∀j u,c[j]? =some u→w.cell? (ad.add (i.toNat*size+j))=some u:=by
 obtain⟨ad,e,r⟩:=h.2.2 (by omega);have q:i.toNat<ps.length:=by have:=h.1;omega
 obtain⟨c,z,hr,y⟩:=r i.toNat _ (r9 q);refine⟨ad,c,e,z,?_,y⟩;rw [List.getD_eq_getElem?_getD,r9 q];exact hr
theorem dj.imp_{α:Type}{R R':α→List Value→Prop}{size:Nat}{w w1:World}{A:Option Addr}{n:Nat}{ps:List α}(h:dj R size w A n ps)(r:Below w.heap.size w w1)(q:∀p c,R p c→R' p c):dj R' size w1 A n ps:=
 ⟨h.1,h.2.1,fun hn=>by
   obtain⟨ad,e,y⟩:=h.2.2 hn;refine⟨ad,e,fun j p D=>?_⟩;obtain⟨c,G,hr,z⟩:=y j p D;exact⟨c,G,q _ _ hr,fun i u J=>aj r (z i u J)⟩⟩
theorem iE{α:Type}{R:α→List Value→Prop}{w:World}{base n size:Nat}{e:TypeId}{v:Value}{ps:List α}{cs:List Value}(h:w.ownsRow base e size v n cs)(y:dg R size ps cs)(hn:ps.length=n):
 ∃A c,v= .slice A n c∧dj R size w A n ps:=by
 rcases Nat.eq_zero_or_pos n with r|r
 ·rcases h.2 with⟨rfl,rfl⟩|⟨g,cap,D,rfl,_⟩
  ·exact⟨none,0,rfl,hn,by omega,fun hp=>absurd hp (by omega)⟩
  ·exact⟨_,cap,rfl,hn,by omega,fun hp=>absurd hp (by omega)⟩
 ·obtain⟨g,cap,rfl,_,_⟩:=h.form r
  have U:n≤9223372036854775807:=by
   rcases h.2 with⟨_,h1⟩|⟨X,V,D,Y,_,_,h1,G,_⟩;·omega
   ·simp only [maxLen]at G
    omega
  refine⟨_,cap,rfl,hn,U,fun _=>⟨_,rfl,fun j p z=>⟨(cs.drop (j*size)).take size,?_,y.2 j p z,fun i u q=>?_⟩⟩⟩
  ·have J:=(si.1 z).1
   have h1:j*size+size≤cs.length:=(by rw [y.1,←Nat.succ_mul];exact sc _ J);rw [r8,sq];omega
  ·refine h.cells (g:=g) rfl _ u ?_
   rw [List.getElem?_take]at q;split at q
   ·rw [List.getElem?_drop]at q
    exact q
   ·cases q
theorem cm(ad:Addr)(m j:Nat)(q:0<j):ad.add (m+j)=⟨(ad.add m).block,(ad.add m).off+j,none⟩:=by
 unfold Addr.add;by_cases h:m=0
 ·subst h
  simp [Nat.ne_of_gt q]
 ·simp [h,Nat.add_assoc]
section
variable {P:Program} {ops:Array Oper} {rest:List Oper} {o:Oper} {a:Act} {Q:Exit→Act→World→Prop}
theorem eu{w0 W:World}(base:Nat)(V:o.guard=none)(s x:Operand)(t e:TypeId)(z:Value)(size bytes:Nat)
 (ho:o.op= .call {callee:= .builtin .append,args:= #[s,x],argTypes:= #[t,t]})
 (ht:P.underlying t=some (.slice e))(X:(P.info? e).map (fun i=>(i.zero,i.size,i.bytes))=some (some z,size,bytes))(hz:z.cells.size=size)(am:0<size)(J:0<bytes)
 (v:Value)(n:Nat)(xs ys:List Value)(Z:a.eval s=v)(hx:a.eval x= .slice (some ⟨W.heap.size,0,none⟩) 1 1)(hys:ys.length=size)(h1:∀u∈ys,u.oneCell'=true)
 (r:W.ownsRow base e size v n xs)(G:Below base w0 W)(U:base≤W.heap.size)(y:(n+1)*bytes≤140737488355328)
 (h:∀v1 w1,w1.ownsRow base e size v1 (n+1) (xs++ys)→Below base w0 w1→W.grownBy w1 v.ownBlock→(v1.ownBlock=v.ownBlock∨∃b,v1.ownBlock=some b∧W.heap.size≤b)→wpList P ops Q rest (a.put o.dst v1) w1):
 wpList P ops Q (o::rest) a (W.alloc (.cells ys.toArray e)):=by
 obtain⟨i0,hi,D⟩:=sd.1 X;simp only [Prod.mk.injEq]at D;obtain⟨hz0,hz1,hz2⟩:=D;have hlen:n+1≤140737488355328:=rK (Nat.le_mul_of_pos_right _ J) y;refine wpList_append_own_at (W.alloc (.cells ys.toArray e)) V s x t ho base e i0 z size bytes ht hi hz0 hz1 hz2 hz am v n xs Z (r.alloc _) ⟨W.heap.size,0,none⟩ 1 1 ys hx (by rw [hys];simp)
  (by simpa using World.news_of_block (cs:=ys.toArray) (t:=e) (fr:=(0,0)) (rP W (.cells ys.toArray e))) h1 (by simp only [maxLen];omega) y (by simp;omega) ?_
 intro v1 w1 Y hg _ q;refine h v1 w1 Y ((G.alloc U _).grown hg (by simp;omega) (eS r)) (World.grownBy.trans (World.grownBy_alloc W _ _) hg) ?_;rcases q with q|q;·exact .inl q
 ·exact .inr ⟨_,q,by simp⟩
end
theorem mY{w:World}{base:Nat}{e t:TypeId}{size n g:Nat}{v:Value}{xs:List Value}{cs:Array Value}(h:w.ownsRow base e size v n xs)(hg:w.heap[g]? =some (.cells cs t (0,0)))(z:e≠t):some g≠v.ownBlock:=by
 rcases h.2 with⟨rfl,_⟩|⟨r,cap,G,rfl,_,q,_⟩;·simp [Value.ownBlock]
 ·intro y
  have:g=r:=by simpa [Value.ownBlock]using y
  subst this;rw [hg]at q;injection q with q;injection q with _ D;exact z D.symm
theorem gV{w:World}{g:Nat}{t:TypeId}{cs:Array Value}(h:w.heap[g]? =some (.cells cs t (0,0)))(i:Nat)(u:Value):(w.setCell ⟨g,i,none⟩ u).heap[g]? =some (.cells (cs.setIfInBounds i u) t (0,0)):=by
 simp [World.setCell,Array.getElem?_modify,h]
theorem az{w:World}{g:Nat}{t:TypeId}{cs:Array Value}(h:w.heap[g]? =some (.cells cs t (0,0))){p:Addr}(hp:g≠p.block)(u:Value):(w.setCell p u).heap[g]? =some (.cells cs t (0,0)):=(Below.heap_setCell w p u g hp).trans h
theorem bH{w:World}{g:Nat}{o:Obj}(h:w.heap[g]? =some o):g<w.heap.size:=(Array.getElem?_eq_some_iff.1 h).1
theorem ab{w:World}{g:Nat}{t:TypeId}{cs:Array Value}(h:w.heap[g]? =some (.cells cs t (0,0)))(i:Nat):w.cell? ⟨g,i,none⟩=cs[i]? :=cell_of_row w g i cs t (0,0) h
theorem au{w:World}{g:Nat}{t:TypeId}{cs:Array Value}(h:w.heap[g]? =some (.cells cs t (0,0)))(i:Nat):w.frozen? ⟨g,i,none⟩=false:=by simp [World.frozen?,h]
theorem bC{w w1:World}{g:Nat}{o:Obj}{row:Option Nat}(h:w.heap[g]? =some o)(hg:w.grownBy w1 row)(q:some g≠row):w1.heap[g]? =some o:=(hg.block g (bH h) q).trans h
section
variable {P:Program} {ops:Array Oper} {o:Oper} {a:Act} {Q:Exit→Act→World→Prop} {K:Act→World→Prop}
theorem fR{w0 W:World}(base:Nat)(hw:Region.wanted o (yielded ops a.tmps)=true)(s x:Operand)(t e:TypeId)(z:Value)(size bytes:Nat)
 (ho:o.op= .call {callee:= .builtin .append,args:= #[s,x],argTypes:= #[t,t]})
 (ht:P.underlying t=some (.slice e))(V:(P.info? e).map (fun i=>(i.zero,i.size,i.bytes))=some (some z,size,bytes))(hz:z.cells.size=size)(Z:0<size)(J:0<bytes)
 (v:Value)(n:Nat)(xs ys:List Value)(Y:a.eval s=v)(hx:a.eval x= .slice (some ⟨W.heap.size,0,none⟩) 1 1)(hys:ys.length=size)(h1:∀u∈ys,u.oneCell'=true)
 (r:W.ownsRow base e size v n xs)(G:Below base w0 W)(U:base≤W.heap.size)(y:(n+1)*bytes≤140737488355328)
 (h:∀v1 w1,w1.ownsRow base e size v1 (n+1) (xs++ys)→Below base w0 w1→W.grownBy w1 v.ownBlock→(v1.ownBlock=v.ownBlock∨∃b,v1.ownBlock=some b∧W.heap.size≤b)→K (a.put o.dst v1) w1):
 if Region.wanted o (yielded ops a.tmps)=true then Oper.wp P o a (W.alloc (.cells ys.toArray e)) K Q else K (a.put o.dst undef) (W.alloc (.cells ys.toArray e)):=by
 obtain⟨i0,hi,D⟩:=sd.1 V;simp only [Prod.mk.injEq]at D;obtain⟨hz0,hz1,hz2⟩:=D;have hlen:n+1≤140737488355328:=rK (Nat.le_mul_of_pos_right _ J) y;rw [rp hw];obtain⟨v1,w1,hr,X,hg,_,q⟩:=run_append_own_at (P:=P) (W.alloc (.cells ys.toArray e)) base t o.type e i0 z size bytes ht hi hz0 hz1 hz2 hz Z v n xs (r.alloc _) ⟨W.heap.size,0,none⟩ 1 1 ys (by rw [hys];simp)
  (by simpa using World.news_of_block (cs:=ys.toArray) (t:=e) (fr:=(0,0)) (rP W (.cells ys.toArray e))) h1 (by simp only [maxLen];omega) y (by simp;omega)
 unfold Oper.wp execOp;simp only [ho,resolve,invoke,builtin,Sem.run_bind,Sem.run_pure,Result.andThen_ok,List.map_toArray,List.map_cons,List.map_nil,Y,hx,hr];refine h v1 w1 X ((G.alloc U _).grown hg (by simp;omega) (eS r)) (World.grownBy.trans (World.grownBy_alloc W _ _) hg) ?_;rcases q with q|q;·exact .inl q
 ·exact .inr ⟨_,q,by simp⟩
end
theorem ky{w:World}{base base':Nat}{e:TypeId}{size n:Nat}{v:Value}{xs:List Value}(h:w.ownsRow base e size v n xs)(z:base'≤base):w.ownsRow base' e size v n xs:=by
 obtain⟨h1,q⟩:=h;refine⟨h1,?_⟩;rcases q with q|⟨g,cap,y,rfl,hg,r⟩;·exact .inl q
 ·exact .inr ⟨g,cap,y,rfl,rK z hg,r⟩
section
variable {α:Type} {enc:α→Value} {d:α}
def eU(enc:α→Value)(xs:List α):List Value:=xs.map enc
def kt(d:α)(xs:List α)(i:Int):α:=xs.getD i.toNat d
theorem gB(xs:List α):(eU enc xs).length=xs.length:=by simp [eU]
theorem nM(xs:List α)(j:Nat)(h:j<xs.length):(eU enc xs)[j]? =some (enc (xs.getD j d)):=by
 simp [eU,List.getElem?_eq_getElem h,List.getD_eq_getElem?_getD]
def gf(enc:α→Value)(d:α)(w:World)(A:Option Addr)(n:Nat)(xs:List α):Prop:=
 xs.length=n∧n≤9223372036854775807∧(0<n→∃ad,A=some ad∧∀j,j<n→w.cell? (ad.add j)=some (enc (xs.getD j d)))
theorem gf.at_{w:World}{A:Option Addr}{n:Nat}{xs:List α}(h:gf enc d w A n xs)(i:Int)(r:0≤i)(h1:i<n):∃ad,A=some ad∧w.cell? (ad.add i.toNat)=some (enc (kt d xs i)):=by
 obtain⟨ad,e,q⟩:=h.2.2 (by omega);exact⟨ad,e,q _ (by omega)⟩
theorem l5{W:World}{base g n cap:Nat}{e:TypeId}{xs:List α}(h:W.ownsRow base e 1 (.slice (some ⟨g,0,none⟩) n cap) n (eU enc xs))(i:Int)(J:0≤i)(h1:i<n):
 W.cell? ⟨g,i.toNat,none⟩=some (enc (kt d xs i))∧W.frozen? ⟨g,i.toNat,none⟩=false:=by
 have U:xs.length=n:=by have:=h.1;simp [eU]at this;exact this
 constructor
 ·have y:=h.cells (g:=g) rfl i.toNat _ (nM (d:=d) xs i.toNat (by omega))
  rwa [add_plain]at y
 ·rcases h.2 with⟨q,_⟩|⟨r,D,G,q,_,z,_⟩
  ·cases q
  ·have:g=r:=by injection q with q;injection q with q;injection q with q
   subst this;simp [World.frozen?,z]
theorem iW{W:World}{base g n cap:Nat}{e:TypeId}{xs:List α}(h:W.ownsRow base e 1 (.slice (some ⟨g,0,none⟩) n cap) n (eU enc xs))(i:Int)(x:α):
 (W.setCell ⟨g,i.toNat,none⟩ (enc x)).ownsRow base e 1 (.slice (some ⟨g,0,none⟩) n cap) n (eU enc (xs.set i.toNat x))∧W.grownBy (W.setCell ⟨g,i.toNat,none⟩ (enc x)) (some g):=by
 have r:=h.stored i.toNat (enc x);have q:(eU enc xs).set i.toNat (enc x)=eU enc (xs.set i.toNat x):=by simp [eU,List.map_set]
 rwa [q]at r
end
theorem ar{w:World}{g:Nat}{o:Obj}(h:w.heap[g]? =some o)(q:Obj):(w.alloc q).heap[g]? =some o:=(Below.heap_alloc w q g (bH h)).trans h
theorem aN{w:World}{g:Nat}{o:Obj}(h:w.heap[g]? =some o):w.drew.heap[g]? =some o:=h
theorem aH{w:World}{g:Nat}{o:Obj}(h:w.heap[g]? =some o)(n:Nat):(w.drewN n).heap[g]? =some o:=h
theorem aQ{w w1:World}{g:Nat}{o:Obj}(h:w.heap[g]? =some o)(q:Below w.heap.size w w1):w1.heap[g]? =some o:=(q.block g (bH h)).trans h
theorem cl(w:World)(o:Obj):(w.alloc o).heap[w.heap.size]? =some o:=rP w o
section
variable {P:Program}
theorem cR{y:Func}{p u:Tmp}{r:TypeId}(h:y.results= #[.cell p r, .tmp u])(q:Array Value)(w:World)(g:Nat)(t:TypeId)(cs:Array Value)(fr:Nat×Nat)(d:TypeDesc)
 (hp:q.getD p undef= .pointer (some ⟨g,0,none⟩))(hg:w.heap[g]? =some (.cells cs t fr))
 (D:P.underlying r=some d)(hd:(match d with| .struct _| .array _ _=>true|_=>false)=true)(hi:(P.info? r).map (·.size)=some cs.size):
 (results y q).run P w= .ok (.tuple #[.agg cs,q.getD u undef]) w:=by
 have z:q[p]?.getD undef= .pointer (some ⟨g,0,none⟩):=by simpa using hp
 simp [results,h,z,asAddr,run_loadVar_row w g t r cs fr d hg D hd hi]
theorem bT{y:Func}{p u v:Tmp}{r:TypeId}(h:y.results= #[.cell p r, .tmp u, .tmp v])(q:Array Value)(w:World)(g:Nat)(t:TypeId)(cs:Array Value)(fr:Nat×Nat)(d:TypeDesc)
 (hp:q.getD p undef= .pointer (some ⟨g,0,none⟩))(hg:w.heap[g]? =some (.cells cs t fr))
 (D:P.underlying r=some d)(hd:(match d with| .struct _| .array _ _=>true|_=>false)=true)(hi:(P.info? r).map (·.size)=some cs.size):
 (results y q).run P w= .ok (.tuple #[.agg cs,q.getD u undef,q.getD v undef]) w:=by
 have z:q[p]?.getD undef= .pointer (some ⟨g,0,none⟩):=by simpa using hp
 simp [results,h,z,asAddr,run_loadVar_row w g t r cs fr d hg D hd hi]
end
theorem px{w:World}{base n m c size:Nat}{e:TypeId}{A:Option Addr}{xs:List Value}(h:w.ownsRow base e size (.slice A m c) n xs):m≤c:=by
 rcases h.2 with⟨q,_⟩|⟨g,cap,z,q,_,_,D,_⟩
 ·injection q with _ r y
  omega
 ·injection q with _ r y
  omega
def dZ{α:Type}(R:α→List Value→Prop)(e:TypeId)(size:Nat)(w:World)(base:Nat)(v:Value)(ps:List α):Prop:=
 ∃inner,w.ownsRow base e size v ps.length inner∧dg R size ps inner
section
variable {α:Type} {R R':α→List Value→Prop} {e:TypeId} {size:Nat} {w w1:World} {base:Nat} {v:Value} {ps:List α}
theorem dZ.none_(R:α→List Value→Prop)(e:TypeId)(size:Nat)(w:World)(base:Nat):dZ R e size w base (.slice none 0 0) []:=⟨[],lh _ _ _ _,dg.none _ _⟩
theorem dZ.imp_(h:dZ R e size w base v ps)(q:∀p c,R p c→R' p c):dZ R' e size w base v ps:=by
 obtain⟨inner,ho,hr⟩:=h;exact⟨inner,ho,hr.imp_ q⟩
theorem dZ.reads(h:dZ R e size w base v ps):∃A c,v= .slice A ps.length c∧ps.length≤c∧dj R size w A ps.length ps:=by
 obtain⟨inner,ho,hr⟩:=h;obtain⟨A,c,rfl,q⟩:=iE ho hr rfl;exact⟨A,c,rfl,px ho,q⟩
theorem dZ.ne_block(h:dZ R e size w base v ps){g:Nat}{t:TypeId}{cells:Array Value}(q:w.heap[g]? =some (.cells cells t (0,0)))(r:e≠t):some g≠v.ownBlock:=by
 obtain⟨inner,ho,hr⟩:=h;exact mY ho q r
end
theorem dj.inner_{α:Type}{R:α→List Value→Prop}{size:Nat}{w:World}{ad:Addr}{n:Nat}{ps:List α}(h:dj R size w (some ad) n ps):
 ∃inner,dg R size ps inner∧∀j u,inner[j]? =some u→w.cell? (ad.add j)=some u:=by
 have key:∀m,m≤ps.length→∃inner,dg R size (ps.take m) inner∧∀j u,inner[j]? =some u→w.cell? (ad.add j)=some u:=by
  intro m
  induction m with
  |zero=>exact fun _=>⟨[],dg.none _ _,fun j u q=>by simp at q⟩
  |succ m V=>
   intro Y;obtain⟨inner,hr,r⟩:=V (by omega);obtain⟨X,y,G⟩:=h.2.2 (by have:=h.1;omega);injection y with y;subst y;obtain⟨c,J,hp,D⟩:=G m _ (r9 (show m<ps.length by omega));refine⟨inner++c,?_,fun j u q=>?_⟩
   ·rw [rM (show m<ps.length by omega)]
    exact hr.snoc hp J
   ·have U:inner.length=m*size:=by rw [hr.1,r8,Nat.min_eq_left (by omega)]
    rcases Nat.lt_or_ge j inner.length with z|z
    ·rw [List.getElem?_append_left z]at q
     exact r j u q
    ·rw [List.getElem?_append_right z]at q
     have:=D (j-inner.length) u q;rwa [U,Nat.add_sub_cancel' (by omega)]at this
 obtain⟨inner,hr,r⟩:=key ps.length (rA _);rw [sl]at hr;exact⟨inner,hr,r⟩
structure Kd (α:Type) where
 sz:Nat
 E:List Nat
 K:World→α→List Value→Prop
 M:World→Nat→(Nat→Prop)→α→List Value→Prop
 K_len:∀{w x cs},K w x cs→cs.length=sz
 K_one:∀{w x cs},K w x cs→∀u∈cs,u.oneCell'=true
 K_below:∀{w w1:World} {x cs},Below w.heap.size w w1→K w x cs→K w1 x cs
 K_of_M:∀{w base ok x cs},M w base ok x cs→K w x cs
 M_mono:∀{w base ok ok' x cs},(∀k,ok k→ok' k)→M w base ok x cs→M w base ok' x cs
 M_bound:∀{w:World} {base ok x cs},M w base ok x cs→M w base (fun k=>ok k∧base≤k∧k<w.heap.size∧∃q,q∈E∧∃cells,w.heap[k]? =some (.cells cells q (0,0))) x cs
 M_move:∀{w w1:World} {base ok x cs},(∀k,ok k→w1.heap[k]? =w.heap[k]?)→M w base ok x cs→M w1 base ok x cs
 M_lower:∀{w base base' ok x cs},base'≤base→M w base ok x cs→M w base' ok x cs
theorem fY{w w1:World}{base:Nat}{e:TypeId}{size n:Nat}{v:Value}{xs:List Value}(h:w.ownsRow base e size v n xs)(D:∀k,v.ownBlock=some k→w1.heap[k]? =w.heap[k]?):w1.ownsRow base e size v n xs:=by
 obtain⟨h1,q⟩:=h;refine⟨h1,?_⟩;rcases q with q|⟨g,cap,y,rfl,hg,z,r⟩;·exact .inl q
 ·exact .inr ⟨g,cap,y,rfl,hg,(D g (by simp [Value.ownBlock])).trans z,r⟩
theorem eR{w:World}{base:Nat}{e:TypeId}{size n:Nat}{v:Value}{xs:List Value}(h:w.ownsRow base e size v n xs)(k:Nat)(q:v.ownBlock=some k):∃cells,w.heap[k]? =some (.cells cells e (0,0)):=by
 rcases h.2 with⟨rfl,_⟩|⟨g,cap,y,rfl,hg,z,r⟩;·simp [Value.ownBlock]at q
 ·have:g=k:=by simpa [Value.ownBlock]using q
  subst this;exact⟨y,z⟩
namespace Kd
def C{α:Type}(d:Kd α)(w:World)(A:Option Addr)(n:Nat)(xs:List α):Prop:=dj (d.K w) d.sz w A n xs
def R{α:Type}(d:Kd α)(e:Nat)(w:World)(base:Nat)(ok:Nat→Prop)(v:Value)(xs:List α):Prop:=
 (∀k,v.ownBlock=some k→ok k)∧dZ (d.M w base (fun k=>ok k∧some k≠v.ownBlock)) e d.sz w base v xs
section
variable {α:Type} {d:Kd α} {e:Nat} {w w1:World} {base:Nat} {ok ok':Nat→Prop} {v:Value} {xs:List α}
theorem C_below{A:Option Addr}{n:Nat}(h:d.C w A n xs)(q:Below w.heap.size w w1):d.C w1 A n xs:=dj.imp_ h q (fun _ _ hp=>d.K_below q hp)
theorem R_nil(d:Kd α)(e:Nat)(w:World)(base:Nat)(ok:Nat→Prop):d.R e w base ok (.slice none 0 0) []:=⟨fun k h=>by simp [Value.ownBlock]at h,dZ.none_ _ _ _ _ _⟩
theorem R_mono(h:d.R e w base ok v xs)(r:∀k,ok k→ok' k):d.R e w base ok' v xs:=⟨fun k q=>r k (h.1 k q),h.2.imp_ (fun _ _ hp=>d.M_mono (fun k q=>⟨r k q.1,q.2⟩) hp)⟩
theorem R_bound(h:d.R e w base ok v xs):d.R e w base (fun k=>ok k∧base≤k∧k<w.heap.size∧∃q,q∈e::d.E∧∃cells,w.heap[k]? =some (.cells cells q (0,0))) v xs:=by
 obtain⟨z,inner,ho,hr⟩:=h;refine⟨fun k r=>?_,inner,ho,hr.imp_ (fun _ _ hp=>d.M_mono (fun k r=>?_) (d.M_bound hp))⟩
 ·obtain⟨cells,y⟩:=eR ho k r
  exact⟨z k r,eS ho k r,kA ho k r,e,rW,cells,y⟩
 ·obtain⟨⟨h1,D⟩,G,J,q,U,y⟩:=r
  exact⟨⟨h1,G,J,q,rX _ U,y⟩,D⟩
theorem R_move(h:d.R e w base ok v xs)(y:∀k,ok k→w1.heap[k]? =w.heap[k]?):d.R e w1 base ok v xs:=by
 obtain⟨r,inner,ho,hr⟩:=h;exact⟨r,inner,fY ho (fun k q=>y k (r k q)),hr.imp_ (fun _ _ hp=>d.M_move (fun k q=>y k q.1) hp)⟩
theorem R_lower{base':Nat}(h:d.R e w base ok v xs)(q:base'≤base):d.R e w base' ok v xs:=by
 obtain⟨r,inner,ho,hr⟩:=h;exact⟨r,inner,ky ho q,hr.imp_ (fun _ _ hp=>d.M_lower q hp)⟩
theorem R_step(h:d.R e w base ok v xs)(r:∀k,ok k→k<w.heap.size→w1.heap[k]? =w.heap[k]?):d.R e w1 base ok v xs:=
 R_mono (R_move (R_bound h) (fun k q=>r k q.1 q.2.2.1)) (fun _ q=>q.1)
theorem M_step{x:α}{cs:List Value}(h:d.M w base ok x cs)(r:∀k,ok k→k<w.heap.size→w1.heap[k]? =w.heap[k]?):d.M w1 base ok x cs:=
 d.M_mono (fun _ q=>q.1) (d.M_move (fun k q=>r k q.1 q.2.2.1) (d.M_bound h))
theorem R_below(h:d.R e w base ok v xs)(q:Below w.heap.size w w1):d.R e w1 base ok v xs:=R_step h (fun k _ r=>q.block k r)
theorem M_below{x:α}{cs:List Value}(h:d.M w base ok x cs)(q:Below w.heap.size w w1):d.M w1 base ok x cs:=M_step h (fun k _ r=>q.block k r)
theorem R_far(h:d.R e w base ok v xs){p:Addr}(q:∀k,ok k→k≠p.block)(u:Value):d.R e (w.setCell p u) base ok v xs:=R_step h (fun k ho _=>Below.heap_setCell w p u k (q k ho))
theorem R_types(h:d.R e w base ok v xs){g t:Nat}{cells:Array Value}(r:w.heap[g]? =some (.cells cells t (0,0)))(G:∀q,q∈e::d.E→q≠t):d.R e w base (fun k=>ok k∧k≠g) v xs:=
 R_mono (R_bound h) (fun k y=>⟨y.1,by
  obtain⟨_,_,_,q,D,J,z⟩:=y;rintro rfl;rw [z]at r;injection r with r;injection r with _ r;exact G q D r⟩)
theorem R_reads(h:d.R e w base ok v xs):∃A c,v= .slice A xs.length c∧xs.length≤c∧d.C w A xs.length xs:=by
 obtain⟨A,c,q,r,hr⟩:=dZ.reads h.2;exact⟨A,c,q,r,hr.imp_ (rr _ _) (fun _ _ hp=>d.K_of_M hp)⟩
theorem R_slice(h:d.R e w base ok v xs):∃A c,v= .slice A xs.length c:=by
 obtain⟨A,c,q,_⟩:=R_reads h;exact⟨A,c,q⟩
theorem R_own(h:d.R e w base ok v xs):∃inner,w.ownsRow base e d.sz v xs.length inner:=by
 obtain⟨_,inner,ho,_⟩:=h;exact⟨inner,ho⟩
theorem R_ne(h:d.R e w base ok v xs){g t:Nat}{cells:Array Value}(q:w.heap[g]? =some (.cells cells t (0,0)))(r:e≠t):some g≠v.ownBlock:=dZ.ne_block h.2 q r
end
def scalar{α:Type}(enc:α→Value)(h1:∀x,(enc x).oneCell'=true):Kd α where
 sz:=1
 E:=[]
 K:=fun _ x cs=>cs= [enc x]
 M:=fun _ _ _ x cs=>cs= [enc x]
 K_len:=fun h=>by rw [h];rfl
 K_one:=fun h u q=>by
  rw [h]at q;rw [List.mem_singleton.1 q];exact h1 _
 K_below:=fun _ h=>h
 K_of_M:=fun h=>h
 M_mono:=fun _ h=>h
 M_bound:=fun h=>h
 M_move:=fun _ h=>h
 M_lower:=fun _ h=>h
def int(k:IntKind):Kd Int:=scalar (Value.int k) (fun _=>rfl)
def bool:Kd Bool:=scalar Value.bool (fun _=>rfl)
def string:Kd ByteArray:=scalar Value.string (fun _=>rfl)
def slice{α:Type}(e:Nat)(d:Kd α):Kd (List α) where
 sz:=1
 E:=e::d.E
 K:=fun w xs cs=>∃A c,cs= [.slice A xs.length c]∧xs.length≤c∧d.C w A xs.length xs
 M:=fun w base ok xs cs=>∃v,cs= [v]∧d.R e w base ok v xs
 K_len:=by
  rintro w x cs ⟨A,c,rfl,_⟩;rfl
 K_one:=by
  rintro w x cs ⟨A,c,rfl,_⟩ u D;rw [List.mem_singleton.1 D];rfl
 K_below:=by
  rintro w w1 x cs q ⟨A,c,rfl,r,hr⟩;exact⟨A,c,rfl,r,C_below hr q⟩
 K_of_M:=by
  rintro w base ok x cs ⟨v,rfl,h⟩;obtain⟨A,c,rfl,r,hr⟩:=R_reads h;exact⟨A,c,rfl,r,hr⟩
 M_mono:=by
  rintro w base ok ok' x cs z ⟨v,rfl,h⟩;exact⟨v,rfl,R_mono h z⟩
 M_bound:=by
  rintro w base ok x cs ⟨v,rfl,h⟩;exact⟨v,rfl,R_bound h⟩
 M_move:=by
  rintro w w1 base ok x cs y ⟨v,rfl,h⟩;exact⟨v,rfl,R_move h y⟩
 M_lower:=by
  rintro w base base' ok x cs q ⟨v,rfl,h⟩;exact⟨v,rfl,R_lower h q⟩
def pair{α β:Type}(a:Kd α)(b:Kd β):Kd (α×β) where
 sz:=a.sz+b.sz
 E:=a.E++b.E
 K:=fun w x cs=>∃h c1,cs=h++c1∧a.K w x.1 h∧b.K w x.2 c1
 M:=fun w base ok x cs=>∃h c1,cs=h++c1∧a.M w base ok x.1 h∧b.M w base ok x.2 c1
 K_len:=by
  rintro w x cs ⟨h,c1,rfl,r,h1⟩;rw [rO,a.K_len r,b.K_len h1]
 K_one:=by
  rintro w x cs ⟨h,c1,rfl,r,h1⟩ u z;rcases List.mem_append.1 z with z|z;·exact a.K_one r u z
  ·exact b.K_one h1 u z
 K_below:=by
  rintro w w1 x cs y ⟨h,c1,rfl,r,h1⟩;exact⟨h,c1,rfl,a.K_below y r,b.K_below y h1⟩
 K_of_M:=by
  rintro w base ok x cs ⟨h,c1,rfl,r,h1⟩;exact⟨h,c1,rfl,a.K_of_M r,b.K_of_M h1⟩
 M_mono:=by
  rintro w base ok ok' x cs Y ⟨h,c1,rfl,r,h1⟩;exact⟨h,c1,rfl,a.M_mono Y r,b.M_mono Y h1⟩
 M_bound:=by
  rintro w base ok x cs ⟨h,c1,rfl,r,h1⟩;refine⟨h,c1,rfl,a.M_mono ?_ (a.M_bound r),b.M_mono ?_ (b.M_bound h1)⟩
  ·rintro k ⟨D,G,J,q,V,U⟩
   exact⟨D,G,J,q,List.mem_append_left _ V,U⟩
  ·rintro k ⟨D,G,J,q,V,U⟩
   exact⟨D,G,J,q,List.mem_append_right _ V,U⟩
 M_move:=by
  rintro w w1 base ok x cs X ⟨h,c1,rfl,r,h1⟩;exact⟨h,c1,rfl,a.M_move X r,b.M_move X h1⟩
 M_lower:=by
  rintro w base base' ok x cs y ⟨h,c1,rfl,r,h1⟩;exact⟨h,c1,rfl,a.M_lower y r,b.M_lower y h1⟩
def iso{α β:Type}(d:Kd α)(f:β→α):Kd β where
 sz:=d.sz
 E:=d.E
 K:=fun w x cs=>d.K w (f x) cs
 M:=fun w base ok x cs=>d.M w base ok (f x) cs
 K_len:=d.K_len
 K_one:=d.K_one
 K_below:=d.K_below
 K_of_M:=d.K_of_M
 M_mono:=d.M_mono
 M_bound:=d.M_bound
 M_move:=d.M_move
 M_lower:=d.M_lower
theorem C_get{α:Type}{d:Kd α}{w:World}{A:Option Addr}{n:Nat}{xs:List α}(h:d.C w A n xs)(z:α)(i:Int)(q:0≤i)(h1:i<n):
 ∃ad c,A=some ad∧c.length=d.sz∧d.K w (xs.getD i.toNat z) c∧∀j u,c[j]? =some u→w.cell? (ad.add (i.toNat*d.sz+j))=some u:=dj.get_ h z i q h1
theorem R_appended{α:Type}{d:Kd α}{e base:Nat}{ok okp:Nat→Prop}{W w1:World}{v v1:Value}{xs:List α}{p:α}{inner cs:List Value}(G:∀k,v.ownBlock=some k→ok k)(hr:dg (d.M W base (fun k=>ok k∧some k≠v.ownBlock)) d.sz xs inner)(hp:d.M W base okp p cs)(X:∀k,okp k→ok k∧some k≠v.ownBlock)(J:∀k,W.heap.size≤k→ok k)
 (Y:w1.ownsRow base e d.sz v1 (xs.length+1) (inner++cs))(hg:W.grownBy w1 v.ownBlock)(r:v1.ownBlock=v.ownBlock∨∃b,v1.ownBlock=some b∧W.heap.size≤b):d.R e w1 base ok v1 (xs++ [p]):=by
 have V:∀k,some k≠v.ownBlock→k<W.heap.size→some k≠v1.ownBlock:=by
  intro k h Z;rcases r with r|⟨b,y,U⟩;·rw [r];exact h
  ·rw [y]
   intro D;injection D with D;omega
 have step:∀{q:α} {c:List Value} {o:Nat→Prop},d.M W base o q c→(∀k,o k→ok k∧some k≠v.ownBlock)→d.M w1 base (fun k=>ok k∧some k≠v1.ownBlock) q c:=by
  intro q c o z ho;have h1:=d.M_move (w1:=w1) (fun k h=>hg.block k h.2.2.1 (ho k h.1).2) (d.M_bound z);exact d.M_mono (fun k h=>⟨(ho k h.1).1,V k (ho k h.1).2 h.2.2.1⟩) h1
 refine⟨fun k h=>?_,inner++cs,by rw [rO,List.length_singleton];exact Y,?_⟩
 ·rcases r with r|⟨b,y,U⟩
  ·exact G k (r▸h)
  ·rw [y]at h
   injection h with h;exact J k (by omega)
 ·exact(hr.imp_ (fun _ _ z=>step z (fun _ h=>h))).snoc (step hp X) (d.K_len (d.K_of_M hp))
section
variable {P:Program} {ops:Array Oper} {rest:List Oper} {o:Oper} {a:Act} {Q:Exit→Act→World→Prop} {α:Type}
theorem R_append(d:Kd α){w0 W:World}(base:Nat)(Y:o.guard=none)(s x:Operand)(t e:TypeId)(z:Value)(bytes:Nat)
 (ho:o.op= .call {callee:= .builtin .append,args:= #[s,x],argTypes:= #[t,t]})
 (ht:P.underlying t=some (.slice e))(Z:(P.info? e).map (fun i=>(i.zero,i.size,i.bytes))=some (some z,d.sz,bytes))(hz:z.cells.size=d.sz)(hs0:0<d.sz)(J:0<bytes)
 (v:Value)(xs:List α)(p:α)(cs:List Value)(ok okp:Nat→Prop)(hs:a.eval s=v)(hx:a.eval x= .slice (some ⟨W.heap.size,0,none⟩) 1 1)(hp:d.M W base okp p cs)(hokp:∀k,okp k→ok k∧some k≠v.ownBlock)(X:∀k,W.heap.size≤k→ok k)
 (D:d.R e W base ok v xs)(y:Below base w0 W)(V:base≤W.heap.size)(hl:(xs.length+1)*bytes≤140737488355328)
 (h:∀v1 w1,d.R e w1 base ok v1 (xs++ [p])→Below base w0 w1→W.grownBy w1 v.ownBlock→(v1.ownBlock=v.ownBlock∨∃b,v1.ownBlock=some b∧W.heap.size≤b)→wpList P ops Q rest (a.put o.dst v1) w1):
 wpList P ops Q (o::rest) a (W.alloc (.cells cs.toArray e)):=by
 obtain⟨G,inner,hown,hr⟩:=D;refine eu base Y s x t e z d.sz bytes ho ht Z hz hs0 J v xs.length inner cs hs hx (d.K_len (d.K_of_M hp)) (d.K_one (d.K_of_M hp)) hown y V hl ?_;intro v1 w1 hown1 U r q;exact h v1 w1 (R_appended G hr hp hokp X hown1 r q) U r q
end
section
variable {P:Program} {ops:Array Oper} {o:Oper} {a:Act} {Q:Exit→Act→World→Prop} {Kc:Act→World→Prop} {α:Type}
theorem R_append_step(d:Kd α){w0 W:World}(base:Nat)(hw:Region.wanted o (yielded ops a.tmps)=true)(s x:Operand)(t e:TypeId)(z:Value)(bytes:Nat)
 (ho:o.op= .call {callee:= .builtin .append,args:= #[s,x],argTypes:= #[t,t]})
 (ht:P.underlying t=some (.slice e))(Y:(P.info? e).map (fun i=>(i.zero,i.size,i.bytes))=some (some z,d.sz,bytes))(hz:z.cells.size=d.sz)(hs0:0<d.sz)(J:0<bytes)
 (v:Value)(xs:List α)(p:α)(cs:List Value)(ok okp:Nat→Prop)(hs:a.eval s=v)(hx:a.eval x= .slice (some ⟨W.heap.size,0,none⟩) 1 1)(hp:d.M W base okp p cs)(am:∀k,okp k→ok k∧some k≠v.ownBlock)(X:∀k,W.heap.size≤k→ok k)
 (D:d.R e W base ok v xs)(y:Below base w0 W)(V:base≤W.heap.size)(Z:(xs.length+1)*bytes≤140737488355328)
 (h:∀v1 w1,d.R e w1 base ok v1 (xs++ [p])→Below base w0 w1→W.grownBy w1 v.ownBlock→(v1.ownBlock=v.ownBlock∨∃b,v1.ownBlock=some b∧W.heap.size≤b)→Kc (a.put o.dst v1) w1):
 if Region.wanted o (yielded ops a.tmps)=true then Oper.wp P o a (W.alloc (.cells cs.toArray e)) Kc Q else Kc (a.put o.dst undef) (W.alloc (.cells cs.toArray e)):=by
 obtain⟨G,inner,ap,hr⟩:=D;refine fR base hw s x t e z d.sz bytes ho ht Y hz hs0 J v xs.length inner cs hs hx (d.K_len (d.K_of_M hp)) (d.K_one (d.K_of_M hp)) ap y V Z ?_;intro v1 w1 av U r q;exact h v1 w1 (R_appended G hr hp am X av r q) U r q
end
theorem reps_scalar{α:Type}{enc:α→Value}(xs:List α):dg (fun(x:α) (cs:List Value)=>cs= [enc x]) 1 xs (eU enc xs):=by
 refine⟨by simp [eU],fun j p h=>?_⟩;obtain⟨q,hp⟩:=si.1 h;have r:j<(eU enc xs).length:=by rw [gB];exact q
 rw [Nat.mul_one,sn r];simp [eU,hp]
theorem R_of_own{α:Type}{enc:α→Value}{h1:∀x,(enc x).oneCell'=true}{e:Nat}{w:World}{base:Nat}{ok:Nat→Prop}{v:Value}{xs:List α}(ho:w.ownsRow base e 1 v xs.length (eU enc xs))(h:∀k,v.ownBlock=some k→ok k):(scalar enc h1).R e w base ok v xs:=⟨h,eU enc xs,ho,reps_scalar xs⟩
theorem own_of_R{α:Type}{enc:α→Value}{h1:∀x,(enc x).oneCell'=true}{e:Nat}{w:World}{base:Nat}{ok:Nat→Prop}{v:Value}{xs:List α}(h:(scalar enc h1).R e w base ok v xs):w.ownsRow base e 1 v xs.length (eU enc xs):=by
 obtain⟨_,inner,ho,hr⟩:=h;have:inner=eU enc xs:=by
  apply List.ext_getElem?;intro j;rcases Nat.lt_or_ge j xs.length with r|r
  ·have D:=hr.2 j _ (r9 r)
   have z:j<inner.length:=(by have:=hr.1;simp [scalar]at this;omega);have q:(inner.drop (j*1)).take 1= [enc xs[j]]:=D;rw [Nat.mul_one,sn z]at q;have G:inner[j]=enc xs[j]:=by
    have y:=congrArg List.head? q;rw [List.take_succ_cons]at y;exact rD y
   rw [r9 z,G];simp [eU,List.getElem?_eq_getElem r]
  ·have q:inner.length=xs.length:=by have:=hr.1;simp [scalar]at this;omega
   rw [sw (by omega),sw (by rw [gB];omega)]
 rw [←this];exact ho
theorem reads_of_C{α:Type}{enc:α→Value}{d:α}{h1:∀x,(enc x).oneCell'=true}{w:World}{A:Option Addr}{n:Nat}{xs:List α}(h:(scalar enc h1).C w A n xs):gf enc d w A n xs:=by
 refine⟨h.1,h.2.1,fun hn=>?_⟩;obtain⟨ad,e,z⟩:=h.2.2 hn;refine⟨ad,e,fun j G=>?_⟩;have q:j<xs.length:=by have:=h.1;omega
 obtain⟨c,_,r,D⟩:=z j _ (r9 q);have y:c= [enc xs[j]]:=r;subst y;have:=D 0 _ rfl;simpa [scalar,List.getD_eq_getElem?_getD,List.getElem?_eq_getElem q]using this
end Kd
namespace Kd
theorem R_after{α:Type}{d:Kd α}{e base:Nat}{ok:Nat→Prop}{W w1:World}{u v v1:Value}{xs:List α}(h:d.R e W base (fun k=>ok k∧some k≠v.ownBlock) u xs)(hg:W.grownBy w1 v.ownBlock)(r:v1.ownBlock=v.ownBlock∨∃b,v1.ownBlock=some b∧W.heap.size≤b):d.R e w1 base (fun k=>ok k∧some k≠v1.ownBlock) u xs:=by
 refine R_mono (R_move (R_bound h) (fun k q=>hg.block k q.2.2.1 q.1.2)) (fun k q=>⟨q.1.1,?_⟩);rcases r with r|⟨b,z,D⟩;·rw [r];exact q.1.2
 ·rw [z]
  intro y;injection y with y;have:=q.2.2.1;omega
end Kd
namespace Kd
section
variable {α β:Type} {d:Kd α} {d':Kd β} {e e':Nat} {w w1 W:World} {base b b':Nat} {ok ok' okv oku:Nat→Prop} {v u:Value} {xs:List α} {ys:List β}
theorem R_drew(h:d.R e w base ok v xs):d.R e w.drew base ok v xs:=R_below h (eB (rr _ _))
theorem R_drewN(h:d.R e w base ok v xs)(m:Nat):d.R e (w.drewN m) base ok v xs:=R_below h (aq (rr _ _) m)
theorem C_alloc{A:Option Addr}{n:Nat}(h:d.C w A n xs)(o:Obj):d.C (w.alloc o) A n xs:=C_below h (ai (rr _ _) o)
theorem C_drew{A:Option Addr}{n:Nat}(h:d.C w A n xs):d.C w.drew A n xs:=C_below h (eB (rr _ _))
theorem C_drewN{A:Option Addr}{n:Nat}(h:d.C w A n xs)(m:Nat):d.C (w.drewN m) A n xs:=C_below h (aq (rr _ _) m)
theorem C_len{A:Option Addr}{n:Nat}(h:d.C w A n xs):xs.length=n:=h.1
theorem C_max{A:Option Addr}{n:Nat}(h:d.C w A n xs):n≤9223372036854775807:=h.2.1
theorem R_reads'{A:Option Addr}{n c:Nat}(h:d.R e w base ok (.slice A n c) xs):n=xs.length∧n≤c∧d.C w A xs.length xs:=by
 obtain⟨y,z,r,G,hr⟩:=R_reads h;injection r with h1 q D;subst h1;exact⟨q,by omega,hr⟩
theorem R_lt(h:d.R e w base ok v xs):∀k,v.ownBlock=some k→k<w.heap.size:=by
 obtain⟨inner,ho⟩:=R_own h;exact kA ho
theorem R_base(h:d.R e w base ok v xs):∀k,v.ownBlock=some k→base≤k:=by
 obtain⟨inner,ho⟩:=R_own h;exact eS ho
theorem R_away(h:d.R e w base ok v xs){g:Nat}(q:∀k,ok k→k≠g):some g≠v.ownBlock:=fun e=>q g (h.1 g e.symm) rfl
theorem R_form(h:d.R e w base ok v xs)(hp:0<xs.length):∃g cap,v= .slice (some ⟨g,0,none⟩) xs.length cap∧base≤g∧g<w.heap.size∧∃cells,w.heap[g]? =some (.cells cells e (0,0)):=by
 obtain⟨inner,ho⟩:=R_own h;obtain⟨g,cap,q,r,z⟩:=ho.form hp;obtain⟨cells,y⟩:=eR ho g (by rw [q];simp [Value.ownBlock]);exact⟨g,cap,q,r,z,cells,y⟩
end
section
variable {w W:World} {A:Option Addr} {n:Nat}
theorem at_int{k:IntKind}{xs:List Int}(h:(Kd.int k).C w A n xs)(i:Int)(q:0≤i)(h1:i<n):∃ad,A=some ad∧w.cell? (ad.add i.toNat)=some (.int k (rd xs i)):=
 gf.at_ (reads_of_C (enc:=Value.int k) (d:=(0:Int)) (h1:=fun _=>rfl) h) i q h1
theorem at_string{xs:List ByteArray}(h:Kd.string.C w A n xs)(i:Int)(q:0≤i)(h1:i<n):∃ad,A=some ad∧w.cell? (ad.add i.toNat)=some (.string (kt ByteArray.empty xs i)):=
 gf.at_ (reads_of_C (enc:=Value.string) (d:=ByteArray.empty) (h1:=fun _=>rfl) h) i q h1
variable {α:Type} {enc:α→Value} {h1:∀x,(enc x).oneCell'=true} {e base g cap:Nat} {ok:Nat→Prop} {xs:List α}
theorem R_cell(d:α)(h:(scalar enc h1).R e W base ok (.slice (some ⟨g,0,none⟩) xs.length cap) xs)(i:Int)(q:0≤i)(hi:i<xs.length):W.cell? ⟨g,i.toNat,none⟩=some (enc (kt d xs i))∧W.frozen? ⟨g,i.toNat,none⟩=false:=l5 (own_of_R h) i q hi
theorem R_put(h:(scalar enc h1).R e W base ok (.slice (some ⟨g,0,none⟩) xs.length cap) xs)(i:Int)(x:α):(scalar enc h1).R e (W.setCell ⟨g,i.toNat,none⟩ (enc x)) base ok (.slice (some ⟨g,0,none⟩) xs.length cap) (xs.set i.toNat x)∧W.grownBy (W.setCell ⟨g,i.toNat,none⟩ (enc x)) (some g):=by
 obtain⟨ho,hg⟩:=iW (own_of_R h) i x;exact⟨R_of_own (by rw [List.length_set];exact ho) h.1,hg⟩
end
section
variable {P:Program} {ops:Array Oper} {rest:List Oper} {o:Oper} {a:Act} {Q:Exit→Act→World→Prop}
theorem event_run{W w1:World}{v:Value}(r:o.guard=none)(y:(execOp a.eval o).run P W= .ok (.value v) w1)(h:wpList P ops Q rest (a.put o.dst v) w1):wpList P ops Q (o::rest) a W:=by
 refine wpList_plain r fun K q=>?_
 unfold Oper.wp;rw [y];exact q _ _ h
variable {α:Type}
theorem R_lit(d:Kd α){w0 W:World}(base e:Nat)(U:o.guard=none){N:Tmp}(Z:o.dst=some N){xs:List α}{inner:List Value}{ok okp:Nat→Prop}
 (Y:(execOp a.eval o).run P W= .ok (.value (.slice (some ⟨W.heap.size,0,none⟩) xs.length xs.length)) (W.alloc (.cells inner.toArray e)))
 (y:dg (d.M W base okp) d.sz xs inner)(X:∀k,okp k→ok k)(J:ok W.heap.size)(z:Below base w0 W)(r:base≤W.heap.size)(V:xs.length≤9223372036854775807)
 (h:∀v1 w1,d.R e w1 base ok v1 xs→Below base w0 w1→W.grownBy w1 none→(∃b,v1.ownBlock=some b∧W.heap.size≤b)→wpList P ops Q rest (a.put o.dst v1) w1):wpList P ops Q (o::rest) a W:=by
 refine event_run U Y (h _ _ ⟨fun k q=>?_,inner,?_,?_⟩ (z.alloc r _) (World.grownBy_alloc W _ none) ⟨W.heap.size,by simp [Value.ownBlock],rA _⟩)
 ·have:W.heap.size=k:=by simpa [Value.ownBlock]using q
  subst this;exact J
 ·have D:=World.ownsRow_lit (base:=base) (e:=e) (size:=d.sz) W inner.toArray xs.length r (by simpa [maxLen]using V) (by simpa using y.1)
  simpa using D
 ·refine y.imp_ (fun p c hp=>d.M_mono (fun k q=>⟨X k q.1,fun G=>?_⟩) (M_below (d.M_bound hp) (ai (rr _ _) _)))
  have h3:k=W.heap.size:=by simpa [Value.ownBlock]using G
  have:=q.2.2.1;omega
theorem reps_made{α:Type}{R:α→List Value→Prop}{z:Value}{size:Nat}{z0:α}(h:z.cells.size=size)(X:0<size)(r:R z0 z.cells.toList)(m:Nat):dg R size (List.replicate m z0) (madeCells z.cells (m*size)).toList:=by
 refine⟨by simp [size_madeCells],fun j p y=>?_⟩;obtain⟨D,hp⟩:=si.1 y;have G:j<m:=by simpa using D
 have U:z0=p:=by simpa using hp
 subst U;have V:j*size+size≤m*size:=by rw [←Nat.succ_mul];exact sc _ G
 have:((madeCells z.cells (m*size)).toList.drop (j*size)).take size=z.cells.toList:=by
  apply List.ext_getElem
  ·simp [size_madeCells,h]
   omega
  ·intro i h1 q
   have hi:i<size:=(by rw [Array.length_toList,h]at q;exact q);have J:(j*size+i)%size=i:=by
    rw [sA,Nat.mul_add_mod];exact sv hi
   simp [madeCells,h,J];rw [getElem!_pos z.cells i (by omega)]
 rw [this];exact r
theorem R_make(d:Kd α){w0 W:World}(base e:Nat)(Y:o.guard=none){N:Tmp}(hd:o.dst=some N)(t:TypeId)(x y:Operand)(ho:o.op= .makeSlice t x y)(n:Int)(hx:a.eval x= .int .i64 n)(hy:a.eval y= .int .i64 n)
 (ht:P.underlying t=some (.slice e))(z:Value)(bytes:Nat)(Z:(P.info? e).map (fun i=>(i.zero,i.size,i.bytes))=some (some z,d.sz,bytes))(hz:z.cells.size=d.sz)(ap:0<d.sz)(U:0<bytes)
 (z0:α){ok okp:Nat→Prop}(hzero:d.M W base okp z0 z.cells.toList)(am:∀k,okp k→ok k)(X:ok W.heap.size)(G:0≤n)(q:n.toNat*bytes≤281474976710656)(D:Below base w0 W)(V:base≤W.heap.size)
 (h:∀v1 w1,d.R e w1 base ok v1 (List.replicate n.toNat z0)→Below base w0 w1→W.grownBy w1 none→(∃b,v1.ownBlock=some b∧W.heap.size≤b)→wpList P ops Q rest (a.put o.dst v1) w1):wpList P ops Q (o::rest) a W:=by
 obtain⟨m,rfl⟩:=sr G;simp only [Int.toNat_natCast]at q h;obtain⟨i0,hi,r⟩:=sd.1 Z;simp only [Prod.mk.injEq]at r;obtain⟨hz0,hz1,hz2⟩:=r;have hm:m≤281474976710656:=rK (Nat.le_mul_of_pos_right _ U) q;have hr:=run_make (P:=P) W t e i0 z ht hi hz0 .i64 .i64 (m:Int) (m:Int) (by omega) (by omega)
  (by
   have J:((i0.bytes*m:Nat):Int)≤281474976710656:=(by rw [hz2,sA];omega);rwa [Int.natCast_mul]at J) (by omega)
 simp only [Int.toNat_natCast]at hr;rw [hz1]at hr;refine R_lit d base e Y hd (xs:=List.replicate m z0) (inner:=(madeCells z.cells (m*d.sz)).toList) (okp:=okp) (ok:=ok) ?_ (reps_made hz ap hzero m) am X D V (by simp;omega) h;simp [execOp,ho,hx,hy,hr]
end
end Kd
namespace Kd
section
variable {α:Type} {d:Kd α} {e e':Nat} {w w1 W:World} {base:Nat} {ok:Nat→Prop} {u v:Value} {xs:List α}
theorem R_typed(h:d.R e w base ok v xs):∀k,v.ownBlock=some k→∃cells,w.heap[k]? =some (.cells cells e (0,0)):=by
 obtain⟨inner,ho⟩:=R_own h;exact fun k q=>eR ho k q
theorem R_over'(h:d.R e W base ok u xs)(U:∀k,v.ownBlock=some k→∃cells,W.heap[k]? =some (.cells cells e' (0,0)))(J:∀q,q∈e::d.E→q≠e')(hg:W.grownBy w1 v.ownBlock):d.R e w1 base ok u xs:=by
 refine R_mono (R_move (R_bound h) (fun k y=>hg.block k y.2.2.1 (fun D=>?_))) (fun _ y=>y.1);obtain⟨_,_,_,q,G,cells,z⟩:=y;obtain⟨V,r⟩:=U k D.symm;rw [z]at r;injection r with r;injection r with _ r;exact J q G r
theorem R_apart'(h:d.R e W base ok u xs)(U:∀k,v.ownBlock=some k→∃cells,W.heap[k]? =some (.cells cells e' (0,0)))(J:∀q,q∈e::d.E→q≠e'):d.R e W base (fun k=>ok k∧some k≠v.ownBlock) u xs:=by
 refine R_mono (R_bound h) (fun k y=>⟨y.1,fun D=>?_⟩);obtain⟨_,_,_,q,G,cells,z⟩:=y;obtain⟨V,r⟩:=U k D.symm;rw [z]at r;injection r with r;injection r with _ r;exact J q G r
theorem R_elder'(z:d.R e W base ok u xs)(r:∀k,v.ownBlock=some k→W.heap.size≤k)(q:Below W.heap.size W w1):d.R e w1 base (fun k=>ok k∧some k≠v.ownBlock) u xs:=
 R_mono (R_move (R_bound z) (fun k h=>q.block k h.2.2.1)) (fun k h=>⟨h.1,fun y=>by have:=r k y.symm;have:=h.2.2.1;omega⟩)
theorem R_new'(h:d.R e w1 W.heap.size ok v xs)(y:∀k,u.ownBlock=some k→k<W.heap.size):d.R e w1 W.heap.size (fun k=>ok k∧some k≠u.ownBlock) v xs:=
 R_mono (R_bound h) (fun k q=>⟨q.1,fun r=>by have:=y k r.symm;have:=q.2.1;omega⟩)
theorem fresh'(q:∀k,u.ownBlock=some k→k<W.heap.size):∀k,W.heap.size≤k→some k≠u.ownBlock:=fun k r h=>by have:=q k h.symm;omega
end
end Kd
namespace Kd
theorem reps_append{α:Type}{R:α→List Value→Prop}{size:Nat}{ps G:List α}{cs ds:List Value}(h:dg R size ps cs)(r:dg R size G ds):dg R size (ps++G) (cs++ds):=by
 refine⟨by rw [rO,rO,h.1,r.1,Nat.add_mul],fun j p q=>?_⟩;rcases Nat.lt_or_ge j ps.length with D|y
 ·rw [List.getElem?_append_left D]at q
  have z:j*size+size≤cs.length:=by rw [h.1,←Nat.succ_mul];exact sc _ D
  rw [List.drop_append_of_le_length (by omega),List.take_append_of_le_length (by rw [sq];omega)];exact h.2 j p q
 ·rw [List.getElem?_append_right y]at q
  have J:=r.2 (j-ps.length) p q;have z:ps.length*size≤j*size:=sc _ y;rw [List.drop_append,rS (by rw [h.1];exact z),List.nil_append,h.1,←Nat.sub_mul];exact J
section
variable {P:Program} {ops:Array Oper} {rest:List Oper} {o:Oper} {a:Act} {Q:Exit→Act→World→Prop} {α:Type}
theorem R_append_rows(d:Kd α){Rr:α→List Value→Prop}{w0 W:World}(base:Nat)(hgd:o.guard=none)(s x:Operand)(t e:TypeId)(z:Value)(bytes:Nat)
 (ho:o.op= .call {callee:= .builtin .append,args:= #[s,x],argTypes:= #[t,t]})
 (ht:P.underlying t=some (.slice e))(hinfo:(P.info? e).map (fun i=>(i.zero,i.size,i.bytes))=some (some z,d.sz,bytes))(hz:z.cells.size=d.sz)(hs0:0<d.sz)(hb0:0<bytes)
 (v:Value)(xs ys:List α)(A:Option Addr)(m c:Nat)(ok okp:Nat→Prop)(hs:a.eval s=v)(hx:a.eval x= .slice A m c)
 (HO:d.R e W base ok v xs)(X:dj Rr d.sz W A m ys)(hKM:∀x cs,Rr x cs→d.M W base okp x cs)(hokp:∀k,okp k→ok k∧some k≠v.ownBlock)(hfresh:∀k,W.heap.size≤k→ok k)
 (HB:Below base w0 W)(hbase:base≤W.heap.size)(hl:(xs.length+m)*bytes≤140737488355328)
 (h:∀v1 w1,d.R e w1 base ok v1 (xs++ys)→Below base w0 w1→W.grownBy w1 v.ownBlock→(v1.ownBlock=v.ownBlock∨∃b,v1.ownBlock=some b∧W.heap.size≤b)→wpList P ops Q rest (a.put o.dst v1) w1):
 wpList P ops Q (o::rest) a W:=by
 obtain⟨i0,hi,hzz⟩:=sd.1 hinfo;simp only [Prod.mk.injEq]at hzz;obtain⟨hz0,hz1,hz2⟩:=hzz;have hm:ys.length=m:=X.1;have hlen:xs.length+m≤140737488355328:=rK (Nat.le_mul_of_pos_right _ hb0) hl;obtain⟨hok,inner,U,hr⟩:=HO;have hrun:∃v1 w1,(Builtin.append_ #[t,t] o.type #[v, .slice A m c]).run P W= .ok v1 w1∧d.R e w1 base ok v1 (xs++ys)∧W.grownBy w1 v.ownBlock∧(v1.ownBlock=v.ownBlock∨∃b,v1.ownBlock=some b∧W.heap.size≤b):=by
  rcases A with _|ad
  ·have G:m=0:=by
    rcases Nat.eq_zero_or_pos m with G|G;·exact G
    ·obtain⟨ad,h,_⟩:=X.2.2 G
     cases h
   subst G;obtain rfl:ys= []:=r7 hm;refine⟨v,W,?_,by rw [List.append_nil];exact⟨hok,inner,U,hr⟩,World.grownBy.refl W _, .inl rfl⟩;rcases U.2 with⟨rfl,hn⟩|⟨g,cap,cur,rfl,_,_,hnc,_⟩;·simp [Builtin.append_,run_underlying ht,sizeOf,typeInfo,hi,Builtin.lenOf,Builtin.firstCells]
   ·simp [Builtin.append_,run_underlying ht,sizeOf,typeInfo,hi,Builtin.lenOf,Builtin.firstCells,hnc,storeCells]
  ·obtain⟨V,hnr,hnc⟩:=dj.inner_ X
   have J:dg (d.M W base okp) d.sz ys V:=hnr.imp_ (fun p c hp=>hKM p c hp);have hone:∀u∈V,u.oneCell'=true:=by
    intro u hu;obtain⟨q,D,rfl⟩:=List.mem_iff_getElem.1 hu;have hql:q/d.sz<ys.length:=by
     rw [Nat.div_lt_iff_lt_mul hs0];rw [←J.1];exact D
    have hc:=J.2 (q/d.sz) _ (r9 hql);refine d.K_one (d.K_of_M hc) _ ?_;rw [List.mem_iff_getElem?];refine⟨q%d.sz,?_⟩;rw [List.getElem?_take,rp (Nat.mod_lt _ hs0),List.getElem?_drop,sA,Nat.div_add_mod,r9 D]
   obtain⟨v1,w1,hrun,h2,hg,_,y⟩:=run_append_own_at (P:=P) W base t o.type e i0 z d.sz bytes ht hi hz0 hz1 hz2 hz hs0 v xs.length inner U ad m c V (by rw [J.1,hm]) hnc hone (by simp only [maxLen];omega) hl hbase;have Y:v1.ownBlock=v.ownBlock∨∃b,v1.ownBlock=some b∧W.heap.size≤b:=by
    rcases y with y|y;·exact .inl y
    ·exact .inr ⟨_,y,rA _⟩
   have hne:∀k,some k≠v.ownBlock→k<W.heap.size→some k≠v1.ownBlock:=by
    intro k r hlt;rcases Y with y|⟨b,Z,hle⟩;·rw [y];exact r
    ·rw [Z]
     intro he;injection he with he;omega
   have step:∀{q:α} {c:List Value} {o:Nat→Prop},d.M W base o q c→(∀k,o k→ok k∧some k≠v.ownBlock)→d.M w1 base (fun k=>ok k∧some k≠v1.ownBlock) q c:=by
    intro q c o D ho;have h1:=d.M_move (w1:=w1) (fun k r=>hg.block k r.2.2.1 (ho k r.1).2) (d.M_bound D);exact d.M_mono (fun k r=>⟨(ho k r.1).1,hne k (ho k r.1).2 r.2.2.1⟩) h1
   refine⟨v1,w1,hrun,⟨fun k r=>?_,inner++V,by rw [rO,hm];exact h2,reps_append (hr.imp_ (fun _ _ D=>step D (fun _ r=>r))) (J.imp_ (fun _ _ D=>step D hokp))⟩,hg,Y⟩;rcases Y with y|⟨b,Z,hle⟩;·exact hok k (y▸r)
   ·rw [Z]at r
    injection r with r;exact hfresh k (by omega)
 obtain⟨v1,w1,hr1,h1,hg,y⟩:=hrun;refine wpList_plain hgd fun K hK=>?_
 unfold Oper.wp execOp;simp only [ho,resolve,invoke,builtin,Sem.run_bind,Sem.run_pure,Result.andThen_ok,List.map_toArray,List.map_cons,List.map_nil,hs,hx,hr1];exact hK _ _ (h v1 w1 h1 (HB.grown hg hbase (eS U)) hg y)
end
end Kd
namespace Kd
section
variable {α:Type} {k:Kd α} {w:World} {A:Option Addr} {xs:List α} {m c:Nat}
theorem C_take(h:k.C w A xs.length xs)(z:m≤xs.length):k.C w A (xs.take m).length (xs.take m):=by
 have y:(xs.take m).length=m:=by rw [r8];omega
 refine⟨rfl,by rw [y];have:=h.2.1;omega,fun hp=>?_⟩;obtain⟨ad,e,r⟩:=h.2.2 (by omega);refine⟨ad,e,fun j p q=>r j p ?_⟩;rw [List.getElem?_take]at q;split at q;·exact q
 ·cases q
end
end Kd
theorem ay{w W:World}(h:Below w.heap.size w W):w.heap.size≤W.heap.size:=h.size
theorem bn{w W q:World}(h:Below w.heap.size w W)(k:Below W.heap.size W q):Below w.heap.size w q:=iw h h.size k
theorem ao{w W:World}{g j:Nat}{v:Value}(h:Below w.heap.size w W)(hg:w.heap.size≤g):Below w.heap.size w (W.setCell ⟨g,j,none⟩ v):=h.setCell hg _
theorem ae(a:Addr)(i:Nat):(a.add i).block=a.block:=by unfold Addr.add;split<;>rfl
theorem ak{W:World}{p a:Addr}(h:a.block≠p.block)(u:Value):(W.setCell p u).cell? a=W.cell? a:=by
 have:=Below.heap_setCell W p u a.block h;simp [World.cell?,this]
theorem al{w:World}{g:Nat}{t:TypeId}{cs cs':Array Value}(h:w.heap[g]? =some (.cells cs t (0,0)))(i:Nat)(u:Value)(e:cs.setIfInBounds i u=cs'):(w.setCell ⟨g,i,none⟩ u).heap[g]? =some (.cells cs' t (0,0)):=e▸gV h i u
theorem aJ{base:Nat}{w W:World}(h:Below base w W):Below base w W.drew:=h.drew
namespace Kd
section
variable {α:Type} {d:Kd α} {e base g:Nat} {ok:Nat→Prop} {w w1:World} {v:Value} {xs:List α} {o:Obj}
theorem R_elderB(h:d.R e w base ok v xs)(a:Nat)(r:w.heap.size≤a):d.R e w base (fun k=>ok k∧k≠a) v xs:=R_mono (R_bound h) (fun k q=>⟨q.1,by have:=q.2.2.1;omega⟩)
theorem freshB(h:w.heap[g]? =some o):∀k,w.heap.size≤k→k≠g:=fun k q=>by have:=bH h;omega
end
end Kd
section
variable {P:Program} {ops:Array Oper} {rest:List Oper} {o:Oper} {a:Act} {Q:Exit→Act→World→Prop}
theorem aI{W:World}(q:o.guard=none){N:Tmp}(y:o.dst=some N){cs:Array Value}{t:TypeId}
 (r:(execOp a.eval o).run P W= .ok (.value (.pointer (some ⟨W.heap.size,0,none⟩))) (W.alloc (.cells cs t (0,0))))
 (h:∀g,g=W.heap.size→∀w1,w1.heap[g]? =some (.cells cs t (0,0))→Below W.heap.size W w1→wpList P ops Q rest (a.put o.dst (.pointer (some ⟨g,0,none⟩))) w1):wpList P ops Q (o::rest) a W:=
 Kd.event_run q r (h _ rfl _ (cl W _) (ai (rr _ _) _))
end
namespace Kd
section
variable {α:Type} {enc:α→Value} {h1:∀x,(enc x).oneCell'=true} {e base g n cap:Nat} {ok:Nat→Prop} {W:World} {xs:List α}
theorem R_celln(d:α)(h:(scalar enc h1).R e W base ok (.slice (some ⟨g,0,none⟩) n cap) xs)(i:Int)(q:0≤i)(hi:i<n):W.cell? ⟨g,i.toNat,none⟩=some (enc (kt d xs i))∧W.frozen? ⟨g,i.toNat,none⟩=false:=by
 obtain⟨rfl,_⟩:=R_reads' h;exact R_cell d h i q hi
theorem R_putn(h:(scalar enc h1).R e W base ok (.slice (some ⟨g,0,none⟩) n cap) xs)(i:Int)(x:α):(scalar enc h1).R e (W.setCell ⟨g,i.toNat,none⟩ (enc x)) base ok (.slice (some ⟨g,0,none⟩) n cap) (xs.set i.toNat x):=by
 obtain⟨rfl,_⟩:=R_reads' h;exact(R_put h i x).1
end
end Kd
section
variable {P:Program} {ops:Array Oper} {rest:List Oper} {o:Oper} {a:Act} {Q:Exit→Act→World→Prop}
theorem eE{W w1:World}(z:o.guard=none){t:TypeId}{p:Tmp}{v:Operand}(G:o.op= .store t (.tmp p) v)(y:o.dst=none)
 (D:(execOp a.eval o).run P W= .ok .skip w1)(h:∀q,q=w1→wpList P ops Q rest a q):wpList P ops Q (o::rest) a W:=by
 refine wpList_plain z fun K r=>?_
 unfold Oper.wp;rw [D];show K (a.put o.dst undef) w1;rw [y];exact r _ _ (h _ rfl)
end
section
variable {P:Program} {ops:Array Oper} {rest:List Oper} {o:Oper} {a:Act} {Q:Exit→Act→World→Prop} {W:World}
theorem aM{N:Tmp}(q:o.dst=some N)(h:wpList P ops Q (o::rest) a W):wpList P ops Q (o::rest) a W:=h
theorem eX{t:TypeId}{p:Tmp}{v:Operand}(q:o.op= .store t (.tmp p) v)(h:wpList P ops Q (o::rest) a W):wpList P ops Q (o::rest) a W:=h
end
section
variable {P:Program} {ops:Array Oper} {o:Oper} {a:Act} {Q:Exit→Act→World→Prop} {Kc:Act→World→Prop}
theorem kP{W w1:World}{v:Value}(r:Region.wanted o (yielded ops a.tmps)=true)(q:(execOp a.eval o).run P W= .ok (.value v) w1)(h:Kc (a.put o.dst v) w1):if Region.wanted o (yielded ops a.tmps)=true then Oper.wp P o a W Kc Q else Kc (a.put o.dst undef) W:=by
 rw [rp r];unfold Oper.wp;rw [q];exact h
theorem jZ{W:World}(r:Region.wanted o (yielded ops a.tmps)=true){N:Tmp}(y:o.dst=some N){cs:Array Value}{t:TypeId}
 (q:(execOp a.eval o).run P W= .ok (.value (.pointer (some ⟨W.heap.size,0,none⟩))) (W.alloc (.cells cs t (0,0))))
 (h:∀g,g=W.heap.size→∀w1,w1.heap[g]? =some (.cells cs t (0,0))→Below W.heap.size W w1→Kc (a.put o.dst (.pointer (some ⟨g,0,none⟩))) w1):if Region.wanted o (yielded ops a.tmps)=true then Oper.wp P o a W Kc Q else Kc (a.put o.dst undef) W:=
 kP r q (h _ rfl _ (cl W _) (ai (rr _ _) _))
end
end Go.Proofs.YtiphlfpainoeiaaGreatDoorW.PrintWords
namespace Go.Proofs.YtiphlfpainoeiaaGreatDoor.L
open Go.RowKit Go.Proofs.YtiphlfpainoeiaaGreatDoorW.PrintWords
theorem gwO{w W:World}{g:Nat}(hg:g=W.heap.size)(h:aa (Below w.heap.size w W)):aa (w.heap.size≤g):=⟨hg▸ay h.out⟩
theorem gkO{p:Prop}{a b g:Nat}(hg:g=b)(h:aa (p∧a≤b)):aa (a≤g):=⟨hg▸h.out.2⟩
theorem bsO{w W q:World}(h:aa (Below w.heap.size w W))(k:Below W.heap.size W q):aa (Below w.heap.size w q):=⟨bn h.out k⟩
theorem bbO{w w1:World}{g:Nat}{o:Obj}(h:aa (w.heap[g]? =some o))(q:Below w.heap.size w w1):aa (w1.heap[g]? =some o):=⟨aQ h.out q⟩
theorem nlO{w:World}{g q:Nat}{o:Obj}(hg:q=w.heap.size)(h:aa (w.heap[g]? =some o)):aa (g≠q):=⟨hg▸rJ (bH h.out)⟩
theorem ngO{w:World}{g q:Nat}{o:Obj}(hg:q=w.heap.size)(h:aa (w.heap[g]? =some o)):aa (q≠g):=⟨hg▸Nat.ne_of_gt (bH h.out)⟩
theorem mvO{w W:World}{a:Addr}{v:Value}(h:aa (Below w.heap.size w W))(q:w.cell? a=some v):W.cell? a=some v:=(h.out.cell (rE w a q)).trans q
theorem dA{p:Prop} [Decidable p](h:decide p=true:=by with_reducible assumption):p:=rQ h
theorem cz1{w:World}{g:Nat}{t:TypeId}{a:Value}(h:aa (w.heap[g]? =some (.cells #[a] t (0,0)))):w.cell? ⟨g,0,none⟩=some a∧w.frozen? ⟨g,0,none⟩=false:=⟨(ab h.out 0).trans rfl,au h.out 0⟩
theorem cz2{w:World}{g:Nat}{t:TypeId}{a b:Value}(h:aa (w.heap[g]? =some (.cells #[a,b] t (0,0)))):w.cell? ⟨g,0,none⟩=some a∧w.cell? ⟨g,1,none⟩=some b∧w.frozen? ⟨g,0,none⟩=false∧w.frozen? ⟨g,1,none⟩=false:=⟨(ab h.out 0).trans rfl,(ab h.out 1).trans rfl,au h.out 0,au h.out 1⟩
theorem cz3{w:World}{g:Nat}{t:TypeId}{a b c:Value}(h:aa (w.heap[g]? =some (.cells #[a,b,c] t (0,0)))):w.cell? ⟨g,0,none⟩=some a∧w.cell? ⟨g,1,none⟩=some b∧w.cell? ⟨g,2,none⟩=some c∧w.frozen? ⟨g,0,none⟩=false∧w.frozen? ⟨g,1,none⟩=false∧w.frozen? ⟨g,2,none⟩=false:=⟨(ab h.out 0).trans rfl,(ab h.out 1).trans rfl,(ab h.out 2).trans rfl,au h.out 0,au h.out 1,au h.out 2⟩
theorem cz4{w:World}{g:Nat}{t:TypeId}{a b c d:Value}(h:aa (w.heap[g]? =some (.cells #[a,b,c,d] t (0,0)))):w.cell? ⟨g,0,none⟩=some a∧w.cell? ⟨g,1,none⟩=some b∧w.cell? ⟨g,2,none⟩=some c∧w.cell? ⟨g,3,none⟩=some d∧w.frozen? ⟨g,0,none⟩=false∧w.frozen? ⟨g,1,none⟩=false∧w.frozen? ⟨g,2,none⟩=false∧w.frozen? ⟨g,3,none⟩=false:=⟨(ab h.out 0).trans rfl,(ab h.out 1).trans rfl,(ab h.out 2).trans rfl,(ab h.out 3).trans rfl,au h.out 0,au h.out 1,au h.out 2,au h.out 3⟩
theorem cz5{w:World}{g:Nat}{t:TypeId}{a b c d e:Value}(h:aa (w.heap[g]? =some (.cells #[a,b,c,d,e] t (0,0)))):w.cell? ⟨g,0,none⟩=some a∧w.cell? ⟨g,1,none⟩=some b∧w.cell? ⟨g,2,none⟩=some c∧w.cell? ⟨g,3,none⟩=some d∧w.cell? ⟨g,4,none⟩=some e∧w.frozen? ⟨g,0,none⟩=false∧w.frozen? ⟨g,1,none⟩=false∧w.frozen? ⟨g,2,none⟩=false∧w.frozen? ⟨g,3,none⟩=false∧w.frozen? ⟨g,4,none⟩=false:=⟨(ab h.out 0).trans rfl,(ab h.out 1).trans rfl,(ab h.out 2).trans rfl,(ab h.out 3).trans rfl,(ab h.out 4).trans rfl,au h.out 0,au h.out 1,au h.out 2,au h.out 3,au h.out 4⟩
theorem cz6{w:World}{g:Nat}{t:TypeId}{a b c d e f:Value}(h:aa (w.heap[g]? =some (.cells #[a,b,c,d,e,f] t (0,0)))):w.cell? ⟨g,0,none⟩=some a∧w.cell? ⟨g,1,none⟩=some b∧w.cell? ⟨g,2,none⟩=some c∧w.cell? ⟨g,3,none⟩=some d∧w.cell? ⟨g,4,none⟩=some e∧w.cell? ⟨g,5,none⟩=some f∧w.frozen? ⟨g,0,none⟩=false∧w.frozen? ⟨g,1,none⟩=false∧w.frozen? ⟨g,2,none⟩=false∧w.frozen? ⟨g,3,none⟩=false∧w.frozen? ⟨g,4,none⟩=false∧w.frozen? ⟨g,5,none⟩=false:=⟨(ab h.out 0).trans rfl,(ab h.out 1).trans rfl,(ab h.out 2).trans rfl,(ab h.out 3).trans rfl,(ab h.out 4).trans rfl,(ab h.out 5).trans rfl,au h.out 0,au h.out 1,au h.out 2,au h.out 3,au h.out 4,au h.out 5⟩
end Go.Proofs.YtiphlfpainoeiaaGreatDoor.L
namespace Go.Proofs.YtiphlfpainoeiaaGreatDoorW.PrintWords
open Go.RowKit
namespace Kd
def tag{α:Type}(f:Nat→Nat)(d:Kd α):Kd (α×Nat) where
 sz:=d.sz
 E:=d.E
 K:=fun w x cs=>d.K w x.1 cs
 M:=fun w base ok x cs=>d.M w base (fun k=>ok k∧f k=x.2) x.1 cs
 K_len:=fun h=>d.K_len h
 K_one:=fun h=>d.K_one h
 K_below:=fun r h=>d.K_below r h
 K_of_M:=fun h=>d.K_of_M h
 M_mono:=fun z h=>d.M_mono (fun k q=>⟨z k q.1,q.2⟩) h
 M_bound:=fun h=>d.M_mono (fun _ q=>⟨⟨q.1.1,q.2⟩,q.1.2⟩) (d.M_bound h)
 M_move:=fun y h=>d.M_move (fun k q=>y k q.1) h
 M_lower:=fun r h=>d.M_lower r h
def S{α:Type}(d:Kd α)(e:Nat)(w:World)(base:Nat)(ok:Nat→Prop)(v:Value)(xs:List α):Prop:=∃f,(tag f d).R e w base ok v xs.zipIdx
section
variable {α β:Type} {d:Kd α} {d':Kd β} {e e':Nat} {w w1 W:World} {base b:Nat} {ok ok' okv oku:Nat→Prop} {u v:Value} {xs:List α} {ys:List β}
theorem zip_at{xs:List α}{j:Nat}{p:α}(h:xs[j]? =some p):xs.zipIdx[j]? =some (p,j):=by rw [List.getElem?_zipIdx,h,Nat.zero_add];rfl
theorem S_R(h:S d e w base ok v xs):d.R e w base ok v xs:=by
 obtain⟨f,q,inner,ho,hr⟩:=h;rw [List.length_zipIdx]at ho;exact⟨q,inner,ho,by have:=hr.1;rw [List.length_zipIdx]at this;exact this,fun j p r=>d.M_mono (fun _ y=>y.1) (hr.2 j (p,j) (zip_at r))⟩
theorem R_tight(z:d.E= [])(h:d.R e w base ok v xs):d.R e w base (fun k=>some k=v.ownBlock) v xs:=by
 obtain⟨D,inner,ho,hr⟩:=h;refine⟨fun k r=>r.symm,inner,ho,hr.imp_ (fun p c hp=>d.M_mono (fun k r=>?_) (d.M_bound hp))⟩;obtain⟨_,_,_,q,y,_⟩:=r;rw [z]at y;cases y
theorem S_nil(d:Kd α)(e:Nat)(w:World)(base:Nat)(ok:Nat→Prop):S d e w base ok (.slice none 0 0) []:=⟨fun _=>0,R_nil _ _ _ _ _⟩
theorem S_mono(h:S d e w base ok v xs)(q:∀k,ok k→ok' k):S d e w base ok' v xs:=by
 obtain⟨f,h⟩:=h;exact⟨f,R_mono h q⟩
theorem S_bound(h:S d e w base ok v xs):S d e w base (fun k=>ok k∧base≤k∧k<w.heap.size∧∃q,q∈e::d.E∧∃cells,w.heap[k]? =some (.cells cells q (0,0))) v xs:=by
 obtain⟨f,h⟩:=h;exact⟨f,R_bound h⟩
theorem S_move(h:S d e w base ok v xs)(q:∀k,ok k→w1.heap[k]? =w.heap[k]?):S d e w1 base ok v xs:=by
 obtain⟨f,h⟩:=h;exact⟨f,R_move h q⟩
theorem S_lower{base':Nat}(h:S d e w base ok v xs)(q:base'≤base):S d e w base' ok v xs:=by
 obtain⟨f,h⟩:=h;exact⟨f,R_lower h q⟩
theorem S_step(h:S d e w base ok v xs)(r:∀k,ok k→k<w.heap.size→w1.heap[k]? =w.heap[k]?):S d e w1 base ok v xs:=
 S_mono (S_move (S_bound h) (fun k q=>r k q.1 q.2.2.1)) (fun _ q=>q.1)
theorem S_below(h:S d e w base ok v xs)(q:Below w.heap.size w w1):S d e w1 base ok v xs:=S_step h (fun k _ r=>q.block k r)
theorem S_drew(h:S d e w base ok v xs):S d e w.drew base ok v xs:=S_below h (eB (rr _ _))
theorem S_far(h:S d e w base ok v xs){p:Addr}(q:∀k,ok k→k≠p.block)(u:Value):S d e (w.setCell p u) base ok v xs:=S_step h (fun k ho _=>Below.heap_setCell w p u k (q k ho))
theorem S_types(h:S d e w base ok v xs){g t:Nat}{cells:Array Value}(r:w.heap[g]? =some (.cells cells t (0,0)))(y:∀q,q∈e::d.E→q≠t):S d e w base (fun k=>ok k∧k≠g) v xs:=by
 obtain⟨f,h⟩:=h;exact⟨f,R_types h r y⟩
theorem S_typed(h:S d e w base ok v xs):∀k,v.ownBlock=some k→∃cells,w.heap[k]? =some (.cells cells e (0,0)):=R_typed (S_R h)
theorem S_base(h:S d e w base ok v xs):∀k,v.ownBlock=some k→base≤k:=R_base (S_R h)
theorem S_over'(h:S d e W base ok u xs)(y:∀k,v.ownBlock=some k→∃cells,W.heap[k]? =some (.cells cells e' (0,0)))(r:∀q,q∈e::d.E→q≠e')(hg:W.grownBy w1 v.ownBlock):S d e w1 base ok u xs:=by
 obtain⟨f,h⟩:=h;exact⟨f,R_over' h y r hg⟩
theorem S_elder'(h:S d e W base ok u xs)(r:∀k,v.ownBlock=some k→W.heap.size≤k)(q:Below W.heap.size W w1):S d e w1 base (fun k=>ok k∧some k≠v.ownBlock) u xs:=by
 obtain⟨f,h⟩:=h;exact⟨f,R_elder' h r q⟩
theorem R_tag{f r:Nat→Nat}{zs:List (α×Nat)}(h:(tag f d).R e w base ok v zs)(z:∀k,ok k→k<w.heap.size→r k=f k):(tag r d).R e w base ok v zs:=by
 obtain⟨y,inner,ho,hr⟩:=R_bound h;exact⟨fun k q=>(y k q).1,inner,ho,hr.1,fun j p D=>d.M_mono (fun k q=>⟨⟨q.1.1.1,q.1.2⟩,(z k q.1.1.1 q.1.1.2.2.1).trans q.2⟩) (hr.2 j p D)⟩
end
section
variable {α β:Type} {d:Kd α} {d':Kd β} {e e' g:Nat} {w w1 W:World} {base b:Nat} {ok ok' okv oku:Nat→Prop} {u v:Value} {xs:List α} {ys:List β}
theorem S_ne(h:S d e w base ok v xs){t:Nat}{cells:Array Value}(q:w.heap[g]? =some (.cells cells t (0,0)))(r:e≠t):some g≠v.ownBlock:=R_ne (S_R h) q r
theorem S_away(h:S d e w base ok v xs)(q:∀k,ok k→k≠g):some g≠v.ownBlock:=R_away (S_R h) q
theorem S_slice(h:S d e w base ok v xs):∃A c,v= .slice A xs.length c:=R_slice (S_R h)
theorem S_elderB(h:S d e w base ok v xs)(a:Nat)(r:w.heap.size≤a):S d e w base (fun k=>ok k∧k≠a) v xs:=S_mono (S_bound h) (fun k q=>⟨q.1,by have:=q.2.2.1;omega⟩)
theorem zip_snoc(xs:List α)(p:α):(xs++ [p]).zipIdx=xs.zipIdx++ [(p,xs.length)]:=by rw [List.zipIdx_append];simp
end
section
open Classical in
theorem S_tag{α:Type}{d:Kd α}{e base:Nat}{okv:Nat→Prop}{w:World}{v:Value}{xs:List α}(h:S d e w base okv v xs)(m:Nat)(okp:Nat→Prop)(y:∀k,okp k→¬okv k):∃f,(∀k,okp k→f k=m)∧(tag f d).R e w base okv v xs.zipIdx:=by
 obtain⟨f,h⟩:=h;exact⟨fun k=>if okp k then m else f k,fun k q=>rp q,R_tag h (fun k q _=>rq (fun r=>y k r q))⟩
variable {P:Program} {ops:Array Oper} {rest:List Oper} {o:Oper} {a:Act} {Q:Exit→Act→World→Prop} {Kc:Act→World→Prop} {α:Type}
theorem S_append(d:Kd α){w0 W:World}(base:Nat)(Y:o.guard=none)(s x:Operand)(t e:TypeId)(z:Value)(bytes:Nat)
 (ho:o.op= .call {callee:= .builtin .append,args:= #[s,x],argTypes:= #[t,t]})
 (ht:P.underlying t=some (.slice e))(Z:(P.info? e).map (fun i=>(i.zero,i.size,i.bytes))=some (some z,d.sz,bytes))(hz:z.cells.size=d.sz)(hs0:0<d.sz)(J:0<bytes)
 (v:Value)(xs:List α)(p:α)(cs:List Value)(ok okp:Nat→Prop)(hs:a.eval s=v)(hx:a.eval x= .slice (some ⟨W.heap.size,0,none⟩) 1 1)(hp:d.M W base okp p cs)(hokp:∀k,okp k→ok k∧some k≠v.ownBlock)(X:∀k,W.heap.size≤k→ok k)
 (y:S d e W base (fun k=>ok k∧¬okp k) v xs)(r:Below base w0 W)(U:base≤W.heap.size)(hl:(xs.length+1)*bytes≤140737488355328)
 (h:∀v1 w1,S d e w1 base ok v1 (xs++ [p])→Below base w0 w1→W.grownBy w1 v.ownBlock→(v1.ownBlock=v.ownBlock∨∃b,v1.ownBlock=some b∧W.heap.size≤b)→wpList P ops Q rest (a.put o.dst v1) w1):
 wpList P ops Q (o::rest) a (W.alloc (.cells cs.toArray e)):=by
 obtain⟨f,V,G⟩:=S_tag y xs.length okp (fun _ q D=>D.2 q);refine R_append (tag f d) base Y s x t e z bytes ho ht Z hz hs0 J v xs.zipIdx (p,xs.length) cs ok okp hs hx (d.M_mono (fun k q=>⟨q,V k q⟩) hp) hokp X (R_mono G (fun _ q=>q.1)) r U (by rw [List.length_zipIdx];exact hl) ?_;intro v1 w1 hr;rw [←zip_snoc]at hr;exact h v1 w1 ⟨f,hr⟩
theorem S_append_step(d:Kd α){w0 W:World}(base:Nat)(hw:Region.wanted o (yielded ops a.tmps)=true)(s x:Operand)(t e:TypeId)(z:Value)(bytes:Nat)
 (ho:o.op= .call {callee:= .builtin .append,args:= #[s,x],argTypes:= #[t,t]})
 (ht:P.underlying t=some (.slice e))(Y:(P.info? e).map (fun i=>(i.zero,i.size,i.bytes))=some (some z,d.sz,bytes))(hz:z.cells.size=d.sz)(hs0:0<d.sz)(J:0<bytes)
 (v:Value)(xs:List α)(p:α)(cs:List Value)(ok okp:Nat→Prop)(hs:a.eval s=v)(hx:a.eval x= .slice (some ⟨W.heap.size,0,none⟩) 1 1)(hp:d.M W base okp p cs)(am:∀k,okp k→ok k∧some k≠v.ownBlock)(X:∀k,W.heap.size≤k→ok k)
 (y:S d e W base (fun k=>ok k∧¬okp k) v xs)(r:Below base w0 W)(U:base≤W.heap.size)(Z:(xs.length+1)*bytes≤140737488355328)
 (h:∀v1 w1,S d e w1 base ok v1 (xs++ [p])→Below base w0 w1→W.grownBy w1 v.ownBlock→(v1.ownBlock=v.ownBlock∨∃b,v1.ownBlock=some b∧W.heap.size≤b)→Kc (a.put o.dst v1) w1):
 if Region.wanted o (yielded ops a.tmps)=true then Oper.wp P o a (W.alloc (.cells cs.toArray e)) Kc Q else Kc (a.put o.dst undef) (W.alloc (.cells cs.toArray e)):=by
 obtain⟨f,V,G⟩:=S_tag y xs.length okp (fun _ q D=>D.2 q);refine R_append_step (tag f d) base hw s x t e z bytes ho ht Y hz hs0 J v xs.zipIdx (p,xs.length) cs ok okp hs hx (d.M_mono (fun k q=>⟨q,V k q⟩) hp) am X (R_mono G (fun _ q=>q.1)) r U (by rw [List.length_zipIdx];exact Z) ?_;intro v1 w1 hr;rw [←zip_snoc]at hr;exact h v1 w1 ⟨f,hr⟩
end
end Kd
end Go.Proofs.YtiphlfpainoeiaaGreatDoorW.PrintWords
namespace Go.Proofs.YtiphlfpainoeiaaGreatDoorW.PrintWords
open Go.RowKit
section
variable {P:Program} {ops:Array Oper} {rest:List Oper} {o:Oper} {a:Act} {Q:Exit→Act→World→Prop} {W:World}
theorem bD(q:Region.wanted o (yielded ops a.tmps)=true)(h:wpList P ops Q ({o with guard:=none}::rest) a W):wpList P ops Q (o::rest) a W:=by
 have h1:Region.wanted {o with guard:=none} (yielded ops a.tmps)=true:=rfl;unfold wpList at h⊢;rw [rp h1]at h;rw [rp q];exact h
end
end Go.Proofs.YtiphlfpainoeiaaGreatDoorW.PrintWords
namespace Go.Proofs.YtiphlfpainoeiaaGreatDoorW.PrintWords
open Go.RowKit
def bV(w W:World)(S:Nat→Prop):Prop:=w.heap.size≤W.heap.size∧∀i,i<w.heap.size→¬S i→W.heap[i]? =w.heap[i]?
section
variable {w W W2:World} {S S2 S':Nat→Prop}
theorem bV.refl(w:World)(S:Nat→Prop):bV w w S:=⟨rA _,fun _ _ _=>rfl⟩
theorem bV.of_below(h:Below w.heap.size w W)(S:Nat→Prop):bV w W S:=⟨h.size,fun i hi _=>h.block i hi⟩
theorem bV.then_(h:bV w W S)(k:bV W W2 S2)(r:∀k,S2 k→S k∨w.heap.size≤k):bV w W2 S:=
 ⟨rK h.1 k.1,fun i hi hn=>(k.2 i (rv hi h.1) (fun q=>(r i q).elim hn (fun y=>by omega))).trans (h.2 i hi hn)⟩
theorem bV.of_grown{row:Option Nat}(hg:W.grownBy W2 row)(h:bV w W S)(hr:∀k,row=some k→S k∨w.heap.size≤k):bV w W2 S:=
 h.then_ (S2:=fun k=>row=some k) ⟨hg.size,fun i hi hn=>hg.block i hi (fun q=>hn q.symm)⟩ hr
theorem bV.below(h:bV w W S)(q:Below W.heap.size W W2):bV w W2 S:=h.then_ (bV.of_below q (fun _=>False)) (fun _ r=>r.elim)
theorem bV.drew(h:bV w W S):bV w W.drew S:=h
theorem bV.drewN(h:bV w W S)(m:Nat):bV w (W.drewN m) S:=h
theorem dM{g:Nat}{o:Obj}(h:W.heap[g]? =some o)(q:bV W W2 S)(r:¬S g):W2.heap[g]? =some o:=(q.2 g (bH h) r).trans h
end
end Go.Proofs.YtiphlfpainoeiaaGreatDoorW.PrintWords
