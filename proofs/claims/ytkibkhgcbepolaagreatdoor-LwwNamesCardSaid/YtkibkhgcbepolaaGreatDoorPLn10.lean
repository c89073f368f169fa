/-
  Part 10 of the lemmas of these laws: LwwNames.
-/
import Derived.Test.YtkibkhgcbepolaaGreatDoorPLn9
set_option linter.unusedVariables false
set_option linter.unusedSimpArgs false
open Go.Proofs.Tryz
namespace Go.Proofs.YtkibkhgcbepolaaGreatDoor
namespace W
open Go.RowKit G
set_option maxRecDepth 20000
set_option maxHeartbeats 8000000
attribute [local irreducible] RS RX
theorem E92:Enters prog 92:= .mk func92 (by kernel_rfl) rfl
theorem E97:Enters prog 97:= .mk func97 (by kernel_rfl) rfl
theorem E112:Enters prog 112:= .mk func112 (by kernel_rfl) rfl
theorem E113:Enters prog 113:= .mk func113 (by kernel_rfl) rfl
theorem E186:Enters prog 186:= .mk func186 (by kernel_rfl) rfl
theorem E191:Enters prog 191:= .mk func191 (by kernel_rfl) rfl
theorem encodeO{S0:Nat→Prop}(o:S.OpV)(ho:o.ok)(pa:Option Addr)(pc:Nat)(w:World)(D0:WRow .u8 32 S0 w pa o.n o.ids)(hc:o.n≤pc):
  Calls prog 97 #[.agg ([.int .u32 o.au, .slice pa o.n pc, .int .u64 o.st, .int .u8 o.k, .string o.key, .int .u8 o.vk, .int .i64 o.num, .int .u64 o.bits, .string o.t, .int .u32 o.e, .int .u32 o.s]:List Value).toArray] w (Ret w fun v w'=>∃a' n' c' xs,v= .tuple #[.slice a' n' c', .int .i64 (S.checkE o)]∧IOwn w.heap.size w' 5 .u8 a' n' c' xs∧xs=if S.checkE o=0 then S.encS o else []):=by
 replace D0:=D0.weaken (T:=fun k=>k<w.heap.size) (fun k hk _=>hk);have o7:=ho.e;have o8:=ho.s;have e4:=D0.len;have e7:=S.numS_len o.e;have e8:=S.numS_len o.s;refine eE 29 func97 rfl rfl fun hE=>?_
 refine sq fun _ J1=>?_
 refine RS.box rfl rfl (fun b2 w2 e2 s2 x2 B2=>?_);refine RS.nm ?_;refine RS.asS rfl (RS.asI rfl (nl J1 (wx fun _ J3=>sq fun _ J4=>?_)));refine RS.la V37 C37 B2 11 ?_;replace D0:=D0.ext x2;refine RS.call E188 (checkO o ho _ _ _ D0 hc) rfl (fun v5 w5 x5 A5=>?_);have zw5:=x5.size;subst A5;refine RS.nm ?_;refine RS.asI rfl ?_;refine nl J4 (sq fun _ J6=>?_);refine RS.mvI rfl ?_;refine RS.on ?_;refine nl J6 ?_;replace hE:=Ext.tr (Ext.tr hE x2) x5;refine C.ifn rfl (fun c7=>?_) (fun c7=>?_)
 ·have hnz:=c7;refine sq fun _ J8=>RS.mvI rfl (RS.asS rfl (RS.asI rfl (nl J8 (wp_ret ?_))));refine retSI ?_;exact⟨_,rfl,hE,none,0,0,[],rfl,IOwn.nil _ _ _ _,(if_neg hnz).symm⟩
 have hz:=c7;obtain⟨q1,q2,q3⟩:=S.check_zero.1 hz;have hml:=S.msg_len o ho q1 e4;have hzb:S.checkE o.bare=0:=S.check_zero.2 ⟨q1,q2,q3.1,q3.2.1,(by show(0:Int)<500000003;decide),(by show(0:Int)<500000003;decide),q3.2.2.2.2⟩;refine wp_skip (J3 _ _ (sq fun _ J9=>?_));replace B2:=B2.ext x5;refine RS.la V37 C37 B2 11 ?_;replace D0:=D0.ext x5;refine RS.call E186 (messageO o ho _ _ _ D0 hc) rfl (fun v10 w10 x10 A10=>?_);have zw10:=x10.size;obtain⟨a10,n10,c10,xs,rfl,OM,hxs⟩:=A10;rw[if_pos hzb]at hxs;subst hxs;have hOM:=OM.len;have pOM:=OM.own.pre;refine RS.nm ?_;refine RS.move (v:= .tuple _) rfl ?_;refine RS.exS ?_;refine RS.exI ?_;refine RS.asS rfl (RS.asI rfl (nl J9 (wx fun _ J11=>?_)));refine regionX Ext [(0, .q),(1, .q),(2, .q),(3, .q),(4, .q),(6, .q),(7, .q),(8, .q),(9, .q),(5, .e),(10, .e),(11, .e),(12, .e),(13, .q),(14, .q)] mixed Ext.refl (fun h k=>h.tr k) (by kernel_rfl) (fun w12 x12=>?_);have zw12:=x12.size;refine RX.mvS rfl ?_;refine RX.fl 9 V37 rfl C35 ?_;refine RX.fl 9 V35 rfl C28 ?_;replace B2:=(B2.ext x10).ext x12;refine RX.o (fun w' hw=>D.load rfl V28 rfl ((B2.ext hw).cell rfl)) ?_;refine RX.o (fun w' hw=>D.conv rfl V28 V29 (W.u64 (by omega))) ?_;refine RX.fl 9 V37 rfl C35 ?_;refine RX.fl 10 V35 rfl C28 ?_;refine RX.o (fun w' hw=>D.load rfl V28 rfl ((B2.ext hw).cell rfl)) ?_;refine RX.o (fun w' hw=>D.conv rfl V28 V29 (W.u64 (by omega))) ?_;refine RX.eff ?_;refine RS.call E190 (numW _ (by omega) _) rfl (fun v13 w13 x13 A13=>?_);have zw13:=x13.size;obtain⟨a13,n13,c13,rfl,OA⟩:=A13;have hOA:=OA.len;have pOA:=OA.own.pre;refine RS.nm ?_;refine RS.nil ⟨x13,?_⟩;refine RX.eff ?_;refine RS.call E190 (numW _ (by omega) _) rfl (fun v14 w14 x14 A14=>?_);have zw14:=x14.size;obtain⟨a14,n14,c14,rfl,OB⟩:=A14;have hOB:=OB.len;have pOB:=OB.own.pre;refine RS.nm ?_;refine RS.nil ⟨x14,?_⟩;refine RX.eff ?_
 refine RS.buildSlice (xs:=[.tmp 17, .tmp 22, .tmp 27]) (vs:=[.slice _ _ _, .slice _ _ _, .slice _ _ _]) (cs:=[.slice _ _ _, .slice _ _ _, .slice _ _ _]) V327 T48 (by decide) rfl rfl rfl rfl rfl rfl (by intro v hv;simp only[List.mem_cons,List.not_mem_nil,or_false]at hv;rcases hv with rfl|rfl|rfl<;>rfl) rfl (fun b15 w15 e15 s15 x15 B15=>?_);refine RS.nm ?_;refine RS.nil ⟨x15,?_⟩;refine RX.eff ?_;replace OM:=(((OM.ext x12).ext x13).ext x14).ext x15;replace OA:=(OA.ext x14).ext x15;replace OB:=OB.ext x15;refine RS.call E189 (concat [⟨a10,n10,c10,S.msgS o⟩,⟨a13,n13,c13,S.numS o.e⟩,⟨a14,n14,c14,S.numS o.s⟩] _ _ _ _ (PRow.of_blkE B15 rfl rfl ⟨⟨_,OM.row,pOM⟩,⟨_,OA.row,pOA⟩,⟨_,OB.row,pOB⟩,trivial⟩) (show(3:Nat)≤1000 by decide) (by simp[cat];omega)) rfl (fun v16 w16 x16 A16=>?_);obtain⟨a16,n16,c16,rfl,O1⟩:=A16;have ecat:cat [⟨a10,n10,c10,S.msgS o⟩,⟨a13,n13,c13,S.numS o.e⟩,⟨a14,n14,c14,S.numS o.s⟩]=S.encS o:=by simp[cat,S.encS]
 rw[ecat]at O1;refine RS.nm ?_;refine RS.nil ⟨x16,?_⟩;refine RX.assign (v:= .slice _ _ _) rfl ?_;refine RX.assign (v:= .int .i64 0) rfl ?_;refine RX.nil (J11 _ _ ?_);refine wp_ret ?_;refine retSI ?_;replace hE:=Ext.tr (Ext.tr (Ext.tr (Ext.tr (Ext.tr (Ext.tr hE x10) x12) x13) x14) x15) x16;exact⟨_,rfl,hE,_,_,_,_,by rw[hz],O1.base (fun k hk=>by have:=O1.lo k hk;omega),(if_pos hz).symm⟩
theorem bytesOR{S0:Nat→Prop}(o:S.OpV)(ho:o.ok)(pa:Option Addr)(pc:Nat)(w:World)(D0:WRow .u8 32 S0 w pa o.n o.ids)(hc:o.n≤pc)(h4:o.n≤4)(hF:o.k=4→S.FineV o.vk o.num o.bits o.t):
  Calls prog 113 #[.agg ([.int .u32 o.au, .slice pa o.n pc, .int .u64 o.st, .int .u8 o.k, .string o.key, .int .u8 o.vk, .int .i64 o.num, .int .u64 o.bits, .string o.t, .int .u32 o.e, .int .u32 o.s]:List Value).toArray] w (Ret w fun v w'=>∃a' n' c',v= .slice a' n' c'∧IOwn w.heap.size w' 5 .u8 a' n' c' (S.encS o)):=by
 replace D0:=D0.weaken (T:=fun k=>k<w.heap.size) (fun k hk _=>hk);have o7:=ho.e;have o8:=ho.s;have e4:=D0.len;have e7:=S.numS_len o.e;have e8:=S.numS_len o.s;have hml:=S.msg_len o ho h4 e4;refine eE 16 func113 rfl rfl fun hE=>?_
 refine sq fun _ J1=>?_
 refine RS.box rfl rfl (fun b2 w2 e2 s2 x2 B2=>?_);refine RS.nm ?_;refine RS.asS rfl (nl J1 (wx fun _ J3=>?_));refine regionX (Below w2.heap.size) [(0, .q),(2, .q),(3, .q),(4, .q),(5, .q),(8, .q),(9, .q),(10, .q),(11, .q),(1, .e),(6, .e),(7, .e),(12, .e),(13, .g),(14, .q)] mixed (fun w=>Below.refl _ _) (fun h k=>Below.trans h k) (by kernel_rfl) (fun w4 x4=>?_);have zw4:=x4.size;replace B2:=B2.ext x4;refine RX.o (fun w' hw=>D.loadAgg rfl V37 rfl C37 (by decide) rfl ((B2.bel hw (by omega)).cellsN 11 rfl)) ?_;refine RX.fl 9 V37 rfl C35 ?_;refine RX.fl 9 V35 rfl C28 ?_;refine RX.o (fun w' hw=>D.load rfl V28 rfl ((B2.bel hw (by omega)).cell rfl)) ?_;refine RX.o (fun w' hw=>D.conv rfl V28 V29 (W.u64 (by omega))) ?_;refine RX.fl 9 V37 rfl C35 ?_;refine RX.fl 10 V35 rfl C28 ?_;refine RX.o (fun w' hw=>D.load rfl V28 rfl ((B2.bel hw (by omega)).cell rfl)) ?_;refine RX.o (fun w' hw=>D.conv rfl V28 V29 (W.u64 (by omega))) ?_;refine RX.eff ?_;replace D0:=(D0.ext x2).ext x4;refine RS.call E92 (textOR o ho _ _ _ D0 hc h4 hF) rfl (fun v5 w5 x5 A5=>?_);have zw5:=x5.size;obtain⟨a5,n5,c5,rfl,O1⟩:=A5;have hO1:=O1.len;refine RS.nm ?_;refine RS.nil ⟨(x5.mono (by omega)),?_⟩;refine RX.eff ?_;refine RS.call E180 (numR _ (by omega) _) rfl (fun v6 w6 x6 A6=>?_);have zw6:=x6.size;obtain⟨a6,n6,c6,rfl,O2⟩:=A6;have hO2:=O2.len;refine RS.nm ?_;refine RS.nil ⟨(x6.mono (by omega)),?_⟩;refine RX.eff ?_;replace O1:=O1.ext x6;refine RS.appendI O1 O2.row rfl rfl V48 T5 rfl (by omega) (by decide) (by omega) (fun a7 c7 w7 N7 x7=>?_);refine RS.nm ?_;replace hE:=Ext.tr (Ext.tr (Ext.tr (Ext.tr hE x2) x4) x5) x6;replace hE:=hE.trans (x7.belQ (fun _ h=>(O1.lo _ h).1));replace D0:=(D0.ext x5).ext x6;replace D0:=D0.prQ x7 (fun _ h=>(O1.lo _ h).1);replace B2:=(B2.ext x5).ext x6;replace B2:=B2.prQ x7 (fun _ h=>(O1.lo _ h).1);have zw7:=x7.size;have lr7:Below w2.heap.size w6 w7:=x7.belQ (fun _ h=>(O1.own.lo _ h).1)
 replace O1:=N7;refine RS.nm ?_;have hO3:=O1.len;refine RS.nil ⟨(lr7),?_⟩;refine RX.eff ?_;refine RS.call E180 (numR _ (by omega) _) rfl (fun v8 w8 x8 A8=>?_);have zw8:=x8.size;obtain⟨a8,n8,c8,rfl,O2⟩:=A8;have hO2:=O2.len;refine RS.nm ?_;refine RS.nil ⟨(x8.mono (by omega)),?_⟩;refine RX.big ?_;replace O1:=O1.ext x8;refine RS.appendI O1 O2.row rfl rfl V48 T5 rfl (by omega) (by decide) (by omega) (fun a9 c9 w9 N9 x9=>?_);refine RS.nm ?_;replace hE:=Ext.tr hE x8;replace hE:=hE.trans (x9.belQ (fun _ h=>(O1.lo _ h).1));replace D0:=D0.ext x8;replace D0:=D0.prQ x9 (fun _ h=>(O1.lo _ h).1);replace B2:=B2.ext x8;replace B2:=B2.prQ x9 (fun _ h=>(O1.lo _ h).1);replace O1:=N9;refine RS.nil ?_;refine RX.assign (v:= .slice _ _ _) rfl ?_;refine RX.nil (J3 _ _ ?_);refine wp_ret ?_;refine retS ?_;exact⟨_,rfl,hE,_,_,_,rfl,O1.base (fun k hk=>by have:=O1.lo k hk;omega)⟩
theorem ofO{S0:Nat→Prop}(o:S.OpV)(ho:o.ok)(pa:Option Addr)(pc:Nat)(w:World)(D0:WRow .u8 32 S0 w pa o.n o.ids)(hc:o.n≤pc)(h4:o.n≤4)(hF:o.k=4→S.FineV o.vk o.num o.bits o.t):
  Calls prog 30 #[.agg ([.int .u32 o.au, .slice pa o.n pc, .int .u64 o.st, .int .u8 o.k, .string o.key, .int .u8 o.vk, .int .i64 o.num, .int .u64 o.bits, .string o.t, .int .u32 o.e, .int .u32 o.s]:List Value).toArray] w (Ret w fun v _=>v= .agg (ints .u8 (S.sha (S.encS o))).toArray):=by
 replace D0:=D0.weaken (T:=fun k=>k<w.heap.size) (fun k hk _=>hk);have e4:=D0.len;have e7:=S.numS_len o.e;have e8:=S.numS_len o.s;have hml:=S.msg_len o ho h4 e4;have hel:(S.encS o).length≤418:=by unfold S.encS;rw[List.length_append,List.length_append];omega
 refine eE 5 func30 rfl rfl fun hE=>?_
 refine sq fun _ J1=>?_
 refine RS.box rfl rfl (fun b2 w2 e2 s2 x2 B2=>?_);refine RS.nm ?_;refine RS.alloc T24 (fun b3 w3 e3 s3 x3 B3=>?_);refine RS.nm ?_;have A3:IArr .u8 w3 b3 32 (List.replicate 32 0) [] 24:=IArr.zero B3;clear B3;refine nl J1 (sq fun _ J4=>?_);replace B2:=B2.ext x3;refine RS.la V37 C37 B2 11 ?_;replace D0:=(D0.ext x2).ext x3;refine RS.call E113 (bytesOR o ho _ _ _ D0 hc h4 hF) rfl (fun v5 w5 x5 A5=>?_);obtain⟨a5,n5,c5,rfl,O1⟩:=A5;have hO1:=O1.len;refine RS.nm ?_;refine RS.call E112 (of _ _ _ _ _ O1.row (by omega) O1.own.pre) rfl (fun v6 w6 x6 A6=>?_);subst A6;have hsa:=S.sha_arr (S.encS o);refine RS.nm ?_;replace A3:=(A3.ext x5).ext x6;refine RS.sr A3 C24 (fun w7 y7 N7=>?_);replace O1:=O1.ext x6;replace O1:=O1.stQ y7 (fun _ h=>(O1.own.lo _ h).1);replace A3:=N7;refine nl J4 (wp_ret ?_);refine ret (rs:=[.cell 2 24]) (vs:=[.agg _]) (v:=(.agg _)) rfl ⟨⟨_,rfl,loadVar_agg V24 rfl C24 (by decide) (by rw[ints_length,A3.len]) A3.cells⟩,trivial⟩ rfl ?_;replace hE:=(Ext.tr (Ext.tr (Ext.tr (Ext.tr hE x2) x3) x5) x6).trans y7.belo;exact⟨_,rfl,hE,rfl⟩
theorem idO{S0:Nat→Prop}(o:S.OpV)(ho:o.ok)(pa:Option Addr)(pc:Nat)(TK:TypeId)(w:World)(K0:Kst w TK)(D0:WRow .u8 32 S0 w pa o.n o.ids)(hc:o.n≤pc):
  Calls prog 98 #[.agg ([.int .u32 o.au, .slice pa o.n pc, .int .u64 o.st, .int .u8 o.k, .string o.key, .int .u8 o.vk, .int .i64 o.num, .int .u64 o.bits, .string o.t, .int .u32 o.e, .int .u32 o.s]:List Value).toArray] w (Ret w fun v _=>v= .tuple #[.agg (ints .u8 (if S.checkE o=0 then S.sha (S.encS o)else List.replicate 32 0)).toArray, .int .i64 (S.checkE o)]):=by
 replace D0:=D0.weaken (T:=fun k=>k<w.heap.size) (fun k hk _=>hk);have e4:=D0.len;have e7:=S.numS_len o.e;have e8:=S.numS_len o.s;have hz0:=Arr.zeros .u8 32;refine eE 18 func98 rfl rfl fun hE=>?_
 refine sq fun _ J1=>?_
 refine RS.box rfl rfl (fun b2 w2 e2 s2 x2 B2=>?_);refine RS.nm ?_;refine RS.alloc T24 (fun b3 w3 e3 s3 x3 B3=>?_);refine RS.nm ?_;have A3:IArr .u8 w3 b3 32 (List.replicate 32 0) [] 24:=IArr.zero B3;clear B3;refine RS.asI rfl ?_;refine nl J1 (sq fun _ J4=>?_);replace B2:=B2.ext x3;refine RS.la V37 C37 B2 11 ?_;replace D0:=(D0.ext x2).ext x3;refine RS.call E97 (encodeO o ho _ _ _ D0 hc) rfl (fun v5 w5 x5 A5=>?_);obtain⟨a5,n5,c5,xs,rfl,O1,hxs⟩:=A5;refine RS.nm ?_;refine RS.move (v:= .tuple _) rfl ?_;refine RS.exS ?_;refine RS.exI ?_;refine RS.asS rfl (RS.asI rfl (nl J4 (wx fun _ J6=>sq fun _ J7=>RS.mvI rfl ?_)));refine RS.on ?_;refine nl J7 ?_;replace hE:=Ext.tr (Ext.tr (Ext.tr hE x2) x3) x5;replace A3:=A3.ext x5;refine C.ifn rfl (fun c8=>?_) (fun c8=>?_)
 ·have hnz:=c8;refine sq fun _ J9=>?_
  refine RS.o (D.build0 V24 T24 C5) ?_;refine RS.mvI rfl ?_;refine RS.sr A3 C24 (fun w10 y10 N10=>?_);replace O1:=O1.stQ y10 (fun _ h=>(O1.own.lo _ h).1);replace A3:=N10;refine RS.asI rfl (nl J9 (wp_ret ?_));refine ret (rs:=[.cell 2 24, .tmp 3]) (vs:=[.agg _, .int _ _]) (v:=(.tuple #[.agg _, .int _ _])) rfl ⟨⟨_,rfl,loadVar_agg V24 rfl C24 (by decide) (by rw[ints_length,A3.len]) A3.cells⟩,rfl,trivial⟩ rfl ?_;rw[if_neg hnz];replace hE:=hE.trans y10.belo;exact⟨_,rfl,hE,rfl⟩
 have hz:=c8;obtain⟨q1,q2,q3⟩:=S.check_zero.1 hz;have hml:=S.msg_len o ho q1 e4;have hel:(S.encS o).length≤418:=by unfold S.encS;rw[List.length_append,List.length_append];omega
 rw[if_pos hz]at hxs;subst hxs;refine wp_skip (J6 _ _ (sq fun _ J11=>RS.mvS rfl ?_));replace K0:=((K0.ext x2).ext x3).ext x5;refine RS.call E191 (sum _ _ _ _ _ _ K0 O1.row O1.own.pre (by have:=O1.len;omega)) rfl (fun v12 w12 x12 A12=>?_);subst A12;have hsa:=S.sha_arr (S.encS o);refine RS.nm ?_;refine RS.exA ?_;refine RS.exI ?_;replace A3:=A3.ext x12;refine RS.sr A3 C24 (fun w13 y13 N13=>?_);replace O1:=O1.ext x12;replace O1:=O1.stQ y13 (fun _ h=>(O1.own.lo _ h).1);replace A3:=N13;refine RS.asI rfl (nl J11 (wp_ret ?_));refine ret (rs:=[.cell 2 24, .tmp 3]) (vs:=[.agg _, .int _ _]) (v:=(.tuple #[.agg _, .int _ _])) rfl ⟨⟨_,rfl,loadVar_agg V24 rfl C24 (by decide) (by rw[ints_length,A3.len]) A3.cells⟩,rfl,trivial⟩ rfl ?_;rw[if_pos hz,hz];replace hE:=(Ext.tr hE x12).trans y13.belo;exact⟨_,rfl,hE,rfl⟩
end W
namespace S
open G
def by4(n:Int):List Int:=[n / 2 ^ (24:Int).toNat % 256,n / 2 ^ (16:Int).toNat % 256,n / 2 ^ (8:Int).toNat % 256,n % 256]
def headS(kind:Int)(l:List Int):List Int:=kind::l.flatMap by4
theorem by4_len(n:Int):(by4 n).length=4:=rfl
theorem head_snoc(kind:Int)(l:List Int)(i:Nat)(h:i<l.length):headS kind (l.take (i+1))=headS kind (l.take i)++by4 (l.getD i 0):=by
 unfold headS;rw[take_snoc l i h,List.flatMap_append,List.cons_append];simp
theorem head_len(kind:Int):∀l:List Int,(headS kind l).length=1+4*l.length
 |[]=>rfl
 |x::l=>by
  have:=head_len kind l;simp only[headS,List.length_cons,List.flatMap_cons,List.length_append,by4_len]at*;omega
def hashS(kind:Int)(l m:List Int):Int:=be ((sha (headS kind l++m)).take 8)
theorem be_step(xs:List Int)(i:Nat)(hB:Bd .u8 xs)(hi:i<8)(hl:8≤xs.length):ior (be (xs.take i)*2 ^ (8:Int).toNat % 18446744073709551616) (xs.getD i 0)=be (xs.take (i+1)):=by
 have hb:=be_bd _ (hB.take i);have hx:=hB.get i;simp only[lim]at hx;have hp:(256:Int) ^ (xs.take i).length≤256 ^ 7:=pow256 (by simp;omega);have h256:(256:Int) ^ 7=72057594037927936:=by decide
 have h8:(2:Int) ^ (8:Int).toNat=256:=by decide
 rw[take_snoc xs i (by omega),be_snoc,h8,Int.emod_eq_of_lt (by omega) (by omega)];exact ior_add _ _ hb.1 hx
theorem be8_lt(xs:List Int)(i:Nat)(hB:Bd .u8 xs)(hi:i≤8):0≤be (xs.take i)∧be (xs.take i)<18446744073709551616:=by
 have hb:=be_bd _ (hB.take i);have hp:(256:Int) ^ (xs.take i).length≤256 ^ 8:=pow256 (by simp;omega);have h256:(256:Int) ^ 8=18446744073709551616:=by decide
 omega
theorem hash_bd(kind:Int)(l m:List Int):0≤hashS kind l m∧hashS kind l m<18446744073709551616:=be8_lt _ 8 (sha_arr _).2 (Nat.le_refl _)
def nonceS(x:Int)(m:List Int):Int:=hashS 110 [x] m % 500000002+1
def chalS(r y:Int)(m:List Int):Int:=hashS 99 [r,y] m % 500000003
theorem nonce_bd(x:Int)(m:List Int):1≤nonceS x m∧nonceS x m<500000003:=by unfold nonceS;omega
theorem chal_bd(r y:Int)(m:List Int):0≤chalS r y m∧chalS r y m<500000003:=by unfold chalS;omega
def pubS(x:Int):Int:=pw 4 x 1000000007
def sigE(x:Int)(m:List Int):Int:=chalS (pubS (nonceS x m)) (pubS x) m
def sigS(x:Int)(m:List Int):Int:=(nonceS x m+sigE x m*x % 500000003) % 500000003
def secE(x:Int):Int:=if 0<x∧x<500000003 then 0 else 2
def verS(y:Int)(m:List Int)(e s:Int):Int:=
 if isG y=false then 2 else if 9991<m.length then 4 else if ¬(e<500000003∧s<500000003)then 22
 else if chalS (pubS s*pw y (500000003 - e) 1000000007 % 1000000007) y m=e then 0 else 22
def fpw:Nat→Int→Int→Int→Int→Int
 |0,_,_,r,m=>r % m
 |f+1,a,n,r,m=>if n % 2=1 then fpw f (a*a % m) (n / 2) (r*a % m) m else fpw f (a*a % m) (n / 2) r m
theorem fpw_eq:∀(f:Nat) (a n r m:Int),0≤n→n<2 ^ f→fpw f a n r m=r*a ^ n.toNat % m
 |0,a,n,r,m,h0,h=>by
  obtain rfl:n=0:=by simp at h;omega
  simp[fpw]
 |f+1,a,n,r,m,h0,h=>by
  have h2:n / 2<2 ^ f:=by rw[Int.pow_succ]at h;omega
  rw[fpw];split
  ·rename_i ho;rw[fpw_eq f _ _ _ _ (by omega) h2,power_odd a r m n h0 ho]
  ·rename_i ho;rw[fpw_eq f _ _ _ _ (by omega) h2,power_even a r m n h0 ho]
theorem pw_fast(a n m:Int)(h0:0≤n)(h:n<1073741824):pw a n m=fpw 30 a n 1 m:=by
 rw[fpw_eq 30 a n 1 m h0 h,pw,Int.one_mul]
theorem pw_pw(a x n m:Int)(hx:0≤x)(hn:0≤n):pw (pw a x m) n m=pw a (x*n) m:=by
 unfold pw;rw[mod_pow,←Int.pow_mul,Int.toNat_mul hx hn]
theorem pw_add(a x n m:Int)(hx:0≤x)(hn:0≤n):pw a x m*pw a n m % m=pw a (x+n) m:=by
 unfold pw;rw[←Int.mul_emod,←Int.pow_add,Int.toNat_add hx hn]
theorem pw_cyc(a q t m:Int)(hm:1<m)(hq:0≤q)(ht:0≤t)(h:pw a q m=1):pw a (q*t) m=1:=by
 rw[←pw_pw a q t m hq ht,h,pw,Int.one_pow];exact Int.emod_eq_of_lt (by omega) hm
theorem pw_mod(a q n m:Int)(hm:1<m)(hq:0<q)(hn:0≤n)(h:pw a q m=1):pw a n m=pw a (n % q) m:=by
 have h1:=Int.emod_nonneg n (show q≠0 by omega);have h2:0≤n / q:=Int.ediv_nonneg hn (by omega);have h3:=pw_nonneg a (n % q) m (by omega);have h4:=pw_lt a (n % q) m (by omega);have e:n=q*(n / q)+n % q:=(Int.mul_ediv_add_emod n q).symm
 conv=>lhs;rw[e]
 rw[←pw_add a _ _ m (Int.mul_nonneg (by omega) h2) h1,pw_cyc a q _ m hm (by omega) h2 h,Int.one_mul];exact Int.emod_eq_of_lt h3 h4
theorem gen_one:pw 4 500000003 1000000007=1:=by
 rw[pw_fast _ _ _ (by decide) (by decide)];decide+kernel
theorem isG_of(a q:Int)(hq:q=500000003)(h0:0≤a)(h1:a<1000000007)(h:pw a q 1000000007=1):isG a=true:=by
 have h2:0<a:=by
  rcases Int.lt_or_eq_of_le h0 with h2|h2
  ·exact h2
  ·rw[←h2]at h;unfold pw at h;rw[Int.zero_pow (by omega)]at h;simp at h
 rw[isG_true h2 h1,←hq,h];rfl
theorem isG_one{a:Int}(h:isG a=true):pw a 500000003 1000000007=1:=by
 have hb:=isG_bd h;rw[isG_true hb.1 hb.2]at h;exact eq_of_beq h
theorem isG_pw(a n q:Int)(hq:q=500000003)(h1:pw a q 1000000007=1)(hn:0≤n):isG (pw a n 1000000007)=true:=by
 refine isG_of _ q hq (pw_nonneg _ _ _ (by decide)) (pw_lt _ _ _ (by decide)) ?_;rw[pw_pw a n q _ hn (by omega),Int.mul_comm,pw_cyc a q n _ (by decide) (by omega) hn h1]
theorem isG_pub(n:Int)(hn:0≤n):isG (pubS n)=true:=isG_pw 4 n _ rfl gen_one hn
theorem isG_back{a:Int}(n:Int)(h:isG a=true)(hn:0≤n):isG (pw a n 1000000007)=true:=isG_pw a n _ rfl (isG_one h) hn
theorem ver_go(k x e q:Int)(hq:0<q)(h1:pw 4 q 1000000007=1)(hk:0≤k∧k<q)(hx:0≤x)(he:0≤e∧e≤q):
  pubS ((k+e*x % q) % q)*pw (pubS x) (q - e) 1000000007 % 1000000007=pubS k:=by
 unfold pubS;have hm:=Int.emod_nonneg (k+e*x % q) (show q≠0 by omega);have hxe:0≤x*(q - e):=Int.mul_nonneg hx (by omega);rw[pw_pw 4 x _ _ hx (by omega),pw_add 4 _ _ _ hm hxe,pw_mod 4 q _ _ (by decide) hq (by omega) h1,pw_mod 4 q k _ (by decide) hq hk.1 h1];congr 1;have e1:(k+e*x % q) % q=(k+e*x) % q:=by rw[Int.add_emod,Int.emod_emod_of_dvd _ (Int.dvd_refl q),←Int.add_emod]
 have e2:k+e*x+x*(q - e)=k+x*q:=by rw[Int.mul_sub,Int.mul_comm e x];omega
 rw[e1,Int.emod_add_emod,e2,Int.add_mul_emod_self_right]
theorem ver_sig(x:Int)(m:List Int)(hx:0<x∧x<500000003)(hm:m.length≤9991):verS (pubS x) m (sigE x m) (sigS x m)=0:=by
 have h1:sigE x m<500000003∧sigS x m<500000003:=⟨(chal_bd _ _ _).2,by unfold sigS;omega⟩
 unfold verS;rw[if_neg (by rw[isG_pub x (by omega)];simp),if_neg (by omega),if_neg (fun h=>h h1),if_pos];have hk:=nonce_bd x m;have he:=chal_bd (pubS (nonceS x m)) (pubS x) m;have:=ver_go (nonceS x m) x (sigE x m) _ (by decide) gen_one (by omega) (by omega) ⟨he.1,Int.le_of_lt he.2⟩;unfold sigS;rw[this];rfl
theorem sig_bd(x:Int)(m:List Int):(0≤sigE x m∧sigE x m<500000003)∧0≤sigS x m∧sigS x m<500000003:=⟨chal_bd _ _ _,by unfold sigS;omega⟩
def OpV.zero:OpV:=⟨0,0,0,0,0,0,0,0,0,[], .empty, .empty⟩
theorem OpV.zero_ok:OpV.zero.ok:=⟨by decide,by decide,by decide,by decide,by decide,by decide,by decide,by decide,by decide,by decide,by decide⟩
def OpV.wit(o:OpV)(x:Int):OpV:= {o with au:=pubS x}
def signE(x:Int)(o:OpV):Int:=if secE x=0 then checkE (o.wit x).bare else 2
def signS(x:Int)(o:OpV):OpV:=if signE x o=0 then {o.wit x with e:=sigE x (msgS (o.wit x)),s:=sigS x (msgS (o.wit x))}else OpV.zero
def verE(o:OpV):Int:=if checkE o=0 then verS o.au (msgS o) o.e o.s else checkE o
theorem pub_bd(x:Int):0≤pubS x∧pubS x<1000000007:=⟨pw_nonneg _ _ _ (by decide),pw_lt _ _ _ (by decide)⟩
theorem OpV.wit_ok{o:OpV}(x:Int)(h:o.ok):(o.wit x).ok:=⟨by have:=pub_bd x;show 0≤pubS x∧pubS x<4294967296;omega,h.st,h.k,h.vk,h.num,h.bits,h.e,h.s,h.n,h.key,h.t⟩
theorem secE_zero{x:Int}:secE x=0↔0<x∧x<500000003:=by unfold secE;split<;>simp_all
theorem signE_zero{x:Int}{o:OpV}:signE x o=0↔(0<x∧x<500000003)∧checkE (o.wit x).bare=0:=by
 unfold signE;rw[←secE_zero];split<;>simp_all
theorem sign_good{x:Int}{o:OpV}(ho:o.ok)(hl:o.ids.length=32*o.n)(h:signE x o=0):(signS x o).au=pubS x∧(signS x o).st=o.st∧checkE (signS x o)=0∧checkE (signS x o).bare=0∧msgS (signS x o)=msgS (o.wit x)∧verS (pubS x) (msgS (o.wit x)) (signS x o).e (signS x o).s=0∧verE (signS x o)=0:=by
 have e:signS x o= {o.wit x with e:=sigE x (msgS (o.wit x)),s:=sigS x (msgS (o.wit x))}:=by unfold signS;rw[if_pos h]
 obtain⟨hx,hc⟩:=signE_zero.1 h;have hb:=sig_bd x (msgS (o.wit x));obtain⟨c1,c2,c3⟩:=check_zero.1 hc;have hz:checkE (signS x o)=0:=by
  rw[e];exact check_zero.2 ⟨c1,c2,c3.1,c3.2.1,hb.1.2,hb.2.2,c3.2.2.2.2⟩
 have hz2:checkE (signS x o).bare=0:=by rw[e];exact hc
 have hv:verS (pubS x) (msgS (o.wit x)) (sigE x (msgS (o.wit x))) (sigS x (msgS (o.wit x)))=0:=ver_sig x _ hx (by have:=msg_len (o.wit x) (OpV.wit_ok x ho) c1 hl;omega);have hm:msgS (signS x o)=msgS (o.wit x):=by rw[e];rfl
 refine⟨by rw[e];rfl,by rw[e];rfl,hz,hz2,hm,?_,?_⟩
 ·rw[e];exact hv
 ·unfold verE;rw[if_pos hz,hm,e];exact hv
theorem pub_eq(x:Int):pw 4 x 1000000007=pubS x:=rfl
theorem nonce_eq(x:Int)(m:List Int):hashS 110 [x] m % 500000002+1=nonceS x m:=rfl
theorem chal_eq(r y:Int)(m:List Int):hashS 99 [r,y] m % 500000003=chalS r y m:=rfl
theorem hash_eq(kind:Int)(l m:List Int):be ((sha (headS kind l++m)).take 8)=hashS kind l m:=rfl
theorem sigE_eq(x:Int)(m:List Int):chalS (pubS (nonceS x m)) (pubS x) m=sigE x m:=rfl
theorem sigS_eq(x:Int)(m:List Int):(nonceS x m+sigE x m*x % 500000003) % 500000003=sigS x m:=rfl
theorem secE_two{x:Int}(h:¬secE x=0):secE x=2:=by
 unfold secE at*;split<;>simp_all
theorem signS_eq{x:Int}{o:OpV}(h:signE x o=0):signS x o= {o.wit x with e:=sigE x (msgS (o.wit x)),s:=sigS x (msgS (o.wit x))}:=by unfold signS;rw[if_pos h]
theorem check_bare{o:OpV}(h:checkE o=0):checkE o.bare=0:=by
 obtain⟨q1,q2,q3⟩:=check_zero.1 h;exact check_zero.2 ⟨q1,q2,q3.1,q3.2.1,(by show(0:Int)<500000003;decide),(by show(0:Int)<500000003;decide),q3.2.2.2.2⟩
theorem signS_ok(x:Int)(o:OpV)(ho:o.ok):(signS x o).ok:=by
 unfold signS;split
 ·have h:=OpV.wit_ok x ho;have hb:=sig_bd x (msgS (o.wit x));refine⟨h.au,h.st,h.k,h.vk,h.num,h.bits,?_,?_,h.n,h.key,h.t⟩
  ·show 0≤sigE x _∧sigE x _<4294967296;omega
  ·show 0≤sigS x _∧sigS x _<4294967296;omega
 ·exact OpV.zero_ok
theorem rising_nil:Rising 0 []:=fun j hj=>by omega
def hashE(m:List Int):Int:=if 9991<m.length then 4 else 0
attribute [irreducible] hashS nonceS chalS pubS sigE sigS
end S
namespace W
open Go.RowKit G
set_option maxRecDepth 20000
set_option maxHeartbeats 8000000
attribute [local irreducible] RS RX
theorem E256:Enters prog 256:= .mk func256 (by kernel_rfl) rfl
theorem E261:Enters prog 261:= .mk func261 (by kernel_rfl) rfl
theorem E275:Enters prog 275:= .mk func275 (by kernel_rfl) rfl
theorem E276:Enters prog 276:= .mk func276 (by kernel_rfl) rfl
theorem E299:Enters prog 299:= .mk func299 (by kernel_rfl) rfl
theorem hash{S0 S1:Nat→Prop}(kd:Int)(hkd:0≤kd∧kd<256)(a:Option Addr)(n c:Nat)(m:List Int)(a2:Option Addr)(n2 c2:Nat)(l:List Int)(TK:TypeId)(w:World)(K0:Kst w TK)(R0:IRow .u8 S0 w a n m)(hc:n≤c)(R1:IRow .u32 S1 w a2 n2 l)(hn2:n2≤5):
  Calls prog 299 #[.int .u8 kd, .slice a n c, .slice a2 n2 c2] w (Ret w fun v _=>v= .tuple #[.int .u64 (if 9991<m.length then 0 else S.hashS kd l m), .int .i64 (S.hashE m)]):=by
 replace R0:=R0.weaken (T:=fun k=>k<w.heap.size) (fun k hk _=>hk);replace R1:=R1.weaken (T:=fun k=>k<w.heap.size) (fun k hk _=>hk);have hKl:=K0.lt;have hml:=R0.len;have hll:=R1.len;refine eE 60 func299 rfl rfl fun hE=>?_
 refine sq fun _ J1=>RS.asI rfl (RS.asI rfl (nl J1 (wx fun _ J2=>sq fun _ J3=>RS.mvS rfl ?_)));refine RS.ln V48 ?_;refine RS.og ?_;refine nl J3 (C.ifd rfl (fun c4=>?_) (fun c4=>?_))
 ·have hgt:=c4;refine sq fun _ J5=>RS.asI rfl (RS.asI rfl (nl J5 (wp_ret ?_)));refine retII ?_;refine⟨_,rfl,hE,?_⟩;unfold S.hashE;rw[if_pos (by omega),if_pos (by omega)]
 have hgt:=c4;refine wp_skip (J2 _ _ (sq fun _ J6=>RS.mvI rfl ?_));refine RS.bs1 V48 T5 (fun b7 w7 e7 s7 x7 B7=>?_);refine RS.nm ?_;have zw7:=x7.size;have O1:IOwn w.heap.size w7 5 .u8 (some ⟨b7,0,none⟩) 1 1 [_]:=IOwn.of_blk B7 rfl rfl (by omega) (.cons (by simp only[lim];omega) (.nil _)) (by decide);refine RS.asS rfl (nl J6 (wx fun _ J8=>sq fun _ J9=>RS.mvS rfl ?_));refine RS.ln V360 ?_;refine RS.mvI rfl (nl J9 (wp_block ?_));refine C.loop (A:=Int×Option Addr×Nat×Nat) (fun p=>[(8, .slice p.2.1 p.2.2.1 p.2.2.2),(23, .int .i64 p.1)]) [10,24,25,26,27,28,29,30,31,32,33,34,35,36,37,38,39,40,41] (fun p w'=>Pr (fun k=>w.heap.size≤k) w7 w'∧((0≤p.1∧p.1≤n2)∧IOwn w.heap.size w' 5 .u8 p.2.1 p.2.2.1 p.2.2.2 (S.headS kd (l.take p.1.toNat)))) (fun p=>(n2 - p.1.toNat)) (0,some ⟨b7,0,none⟩,1,1) (by kernel_rfl) ?_ ?_
 ·exact⟨Pr.refl _ _,⟨by dsimp only;omega,by dsimp only;omega⟩,by simpa [S.headS]using O1⟩
 rintro p j w10 ⟨x10,hI⟩;have zw10:=x10.size;obtain⟨i,ao,no,co⟩:=p;dsimp only at hI;obtain⟨h1,O1⟩:=hI;have hol:=O1.len;rw[S.head_len,List.length_take]at hol;refine C.nmU ?_;refine sq fun _ J11=>?_
 refine RS.ol ?_;refine nl J11 (wx fun _ J12=>?_);replace hE:=(Ext.tr hE x7).trans x10.belo;replace K0:=(K0.ext x7).pro x10;replace R0:=(R0.ext x7).pro x10;refine C.ifd rfl (fun c13=>?_) (fun c13=>?_)
 ·refine wp_skip (J12 _ _ (wx fun _ J14=>wp_block (sq fun _ J15=>?_)));replace R1:=(R1.ext x7).pro x10;refine RS.idx R1 rfl rfl V360 C28 (by omega) (fun b16 o16 v16 h16 q16 r16=>?_);refine RS.nm ?_;simp only[lim]at r16;have q1:=q16;refine RS.o (D.load rfl V28 rfl (h16)) ?_;refine RS.asI rfl (nl J15 (region (RS.mvS rfl (RS.mvI rfl ?_))));refine RS.ob (D.shr_u32 rfl rfl (by omega) (by constructor<;>omega)) (fun z17=>?_);refine RS.o (D.conv rfl V28 V5 (W.u8m _)) ?_;refine RS.mvI rfl ?_;refine RS.ob (D.shr_u32 rfl rfl (by omega) (by constructor<;>omega)) (fun z18=>?_);refine RS.o (D.conv rfl V28 V5 (W.u8m _)) ?_;refine RS.mvI rfl ?_;refine RS.ob (D.shr_u32 rfl rfl (by omega) (by constructor<;>omega)) (fun z19=>?_);refine RS.o (D.conv rfl V28 V5 (W.u8m _)) ?_;refine RS.mvI rfl ?_;refine RS.o (D.conv rfl V28 V5 (W.u8m _)) ?_;refine RS.buildSlice (xs:=[.tmp 30, .tmp 33, .tmp 36, .tmp 38]) (vs:=[.int _ _, .int _ _, .int _ _, .int _ _]) (cs:=[.int _ _, .int _ _, .int _ _, .int _ _]) V48 T5 (by decide) rfl rfl rfl rfl rfl rfl (by intro v hv;simp only[List.mem_cons,List.not_mem_nil,or_false]at hv;rcases hv with rfl|rfl|rfl|rfl<;>rfl) rfl (fun b20 w20 e20 s20 x20 B20=>?_);refine RS.nm ?_;have Q1:IRow .u8 (fun k=>k=b20) w20 (some ⟨b20,0,none⟩) 4 [_,_,_,_]:=IRow.of_blk B20 rfl rfl rfl (.cons (by simp only[lim];omega) (.cons (by simp only[lim];omega) (.cons (by simp only[lim];omega) (.cons (by simp only[lim];omega) (.nil _)))));replace O1:=O1.ext x20;refine RS.appendI O1 Q1 rfl rfl V48 T5 rfl (by omega) (by decide) (by omega) (fun a21 c21 w21 N21 x21=>?_);refine RS.nm ?_;replace hE:=Ext.tr hE x20;replace hE:=hE.trans (x21.belQ (fun _ h=>(O1.lo _ h).1));replace x10:=x10.ext x20;replace x10:=x10.prnQ x21 (fun _ h=>(O1.lo _ h).1);replace K0:=K0.ext x20;replace K0:=K0.prQ x21 (fun _ h=>(O1.lo _ h).1);replace R0:=R0.ext x20;replace R0:=R0.prQ x21 (fun _ h=>(O1.lo _ h).1)
  replace R1:=R1.ext x20;replace R1:=R1.prQ x21 (fun _ h=>(O1.lo _ h).1);replace O1:=N21;refine RS.asS rfl (nl J14 (region ?_));refine RS.adi ?_;refine RS.mvI rfl (RS.nil ?_);change Nx _ _ _ _ _ _ _ _;refine C.next (i+1,_,_,_) ⟨rfl,rfl,trivial⟩ (by kernel_rfl) ?_ ?_
  ·refine⟨x10,⟨by dsimp only;omega,by dsimp only;omega⟩,?_⟩;dsimp only;rw[show(i+1).toNat=i.toNat+1 by omega,S.head_snoc _ _ _ (by omega),←q1];exact O1
  dsimp only;omega
 refine wp_exit (J8 _ _ (sq fun _ J22=>RS.mvS rfl (RS.mvS rfl ?_)));refine RS.buildSlice (xs:=[.tmp 43, .tmp 44]) (vs:=[.slice _ _ _, .slice _ _ _]) (cs:=[.slice _ _ _, .slice _ _ _]) V327 T48 (by decide) rfl rfl rfl rfl rfl rfl (by intro v hv;simp only[List.mem_cons,List.not_mem_nil,or_false]at hv;rcases hv with rfl|rfl<;>rfl) rfl (fun b23 w23 e23 s23 x23 B23=>?_);refine RS.nm ?_;have el:l.take i.toNat=l:=List.take_of_length_le (by omega);replace O1:=O1.ext x23;rw[el]at O1;have pO1:=O1.own.pre;have hpp:cat [⟨ao,no,co,S.headS kd l⟩,⟨a,n,c,m⟩]=S.headS kd l++m:=by simp[cat]
 have hhl:=S.head_len kd l;replace K0:=K0.ext x23;replace R0:=R0.ext x23;refine RS.call E268 (pieces [⟨ao,no,co,S.headS kd l⟩,⟨a,n,c,m⟩] _ _ _ _ _ K0 (PRow.of_blkE B23 rfl rfl ⟨⟨_,O1.row,pO1⟩,⟨_,R0,hc⟩,trivial⟩) (show(2:Nat)≤20 by decide) (by intro p hp;simp only[List.mem_cons,List.not_mem_nil,or_false]at hp;rcases hp with rfl|rfl<;>(dsimp only;omega)) (by rw[hpp,List.length_append];omega)) rfl (fun v24 w24 x24 A24=>?_);have zw24:=x24.size;subst A24;rw[hpp];have hsa:=S.sha_arr (S.headS kd l++m);refine RS.nm ?_;refine RS.move (v:= .tuple _) rfl ?_;refine RS.exA ?_;refine RS.exI ?_;refine RS.alloc T24 (fun b25 w25 e25 s25 x25 B25=>?_);refine RS.nm ?_;have A25:IArr .u8 w25 b25 32 (List.replicate 32 0) [] 24:=IArr.zero B25;clear B25;refine RS.storeArr A25 rfl rfl C24 (by decide) hsa.1 hsa.2 (fun w26 y26 N26=>?_);have zw26:=y26.size;replace A25:=N26;refine RS.asI rfl ?_;refine nl J22 (sq fun _ J27=>?_);refine RS.asI rfl (nl J27 (wx fun _ J28=>sq fun _ J29=>?_));refine RS.o (D.sliceArr (kl:= .i64) (kh:= .i64) rfl V24 C5 rfl rfl (by omega)) ?_;refine RS.ln V48 ?_;refine RS.mvI rfl (nl J29 (wp_block ?_));refine C.loop (A:=Int×Int) (fun p=>[(13, .int .u64 p.2),(51, .int .i64 p.1)]) [15,52,53,54,55,56,57,58,59,60] (fun p w'=>Ext w26 w'∧((0≤p.1∧p.1≤8)∧p.2=S.be ((S.sha (S.headS kd l++m)).take p.1.toNat))) (fun p=>(8 - p.1.toNat)) (0,0) (by kernel_rfl) ?_ ?_
 ·exact⟨Ext.refl _,⟨by dsimp only;omega,by dsimp only;omega⟩,rfl⟩
 rintro p j w30 ⟨x30,hI⟩;obtain⟨i,r⟩:=p;dsimp only at hI;obtain⟨g1,g2⟩:=hI;have g3:=S.be8_lt (S.sha (S.headS kd l++m)) i.toNat hsa.2 (by omega);rw[←g2]at g3;refine C.nmU ?_;refine sq fun _ J31=>?_
 refine RS.ol ?_;refine nl J31 (wx fun _ J32=>C.ifd rfl (fun c33=>?_) (fun c33=>?_))
 ·refine wp_skip (J32 _ _ (wx fun _ J34=>wp_block (wx fun _ J35=>?_)));replace A25:=A25.ext x30;have QI:=(A25.row (S:=fun k=>k=b25) rfl).sub 0 8 32 (by decide) (by decide) (by decide);refine region ?_;refine RS.idx QI rfl rfl V48 C5 (by omega) (fun b36 o36 v36 h36 q36 r36=>?_);refine RS.nm ?_;simp only[lim]at r36;have q2:=q36;rw[List.drop_zero,S.take_getD _ _ _ (by omega)]at q2;refine RS.o (D.load rfl V5 rfl (h36)) ?_;refine RS.asI rfl (nl J35 (region (RS.mvI rfl ?_)));refine RS.o (D.shl rfl rfl (by constructor<;>(try simp only[IntKind.bits])<;>omega) (by first|exact W.u64 (by omega)|exact W.u64m _)) ?_;refine RS.mvI rfl ?_;refine RS.o (D.conv rfl V5 V29 (by first|exact W.u64 (by omega)|exact W.u64m _)) ?_;refine RS.ob (D.bor_u64 rfl rfl (by omega) (by omega)) (fun z37=>?_);refine RS.asI rfl (nl J34 (region ?_));refine RS.adi ?_;refine RS.mvI rfl (RS.nil ?_);change Nx _ _ _ _ _ _ _ _;refine C.next (i+1,_) ⟨rfl,rfl,trivial⟩ (by kernel_rfl) ?_ ?_
  ·refine⟨x30,⟨by dsimp only;omega,by dsimp only;omega⟩,?_⟩;dsimp only;rw[show(i+1).toNat=i.toNat+1 by omega,←S.be_step _ _ hsa.2 (by omega) (by rw[hsa.1];decide),←g2,←q2];rfl
  dsimp only;omega
 refine wp_exit (J28 _ _ (sq fun _ J38=>RS.mvI rfl (RS.mvI rfl (RS.asI rfl (RS.asI rfl (nl J38 (wp_ret ?_)))))));refine retII ?_;replace hE:=Ext.tr ((Ext.tr (Ext.tr (Ext.tr hE x23) x24) x25).trans y26.belo) x30;refine⟨_,rfl,hE,?_⟩;unfold S.hashE;rw[if_neg (by omega),if_neg (by omega),g2,show i.toNat=8 by omega,S.hash_eq]
theorem challenge(r:Int)(hr:0≤r∧r<4294967296)(y:Int)(hy:0≤y∧y<4294967296){S0:Nat→Prop}(a:Option Addr)(n c:Nat)(m:List Int)(TK:TypeId)(w:World)(K0:Kst w TK)(R0:IRow .u8 S0 w a n m)(hc:n≤c):
  Calls prog 261 #[.int .u32 r, .int .u32 y, .slice a n c] w (Ret w fun v _=>v= .tuple #[.int .u32 (if S.hashE m=0 then S.chalS r y m else 0), .int .i64 (S.hashE m)]):=by
 replace R0:=R0.weaken (T:=fun k=>k<w.heap.size) (fun k hk _=>hk);refine eE 21 func261 rfl rfl fun hE=>?_
 refine sq fun _ J1=>RS.asI rfl (RS.asI rfl ?_);refine nl J1 (sq fun _ J2=>?_);refine RS.mvS rfl (RS.mvI rfl (RS.mvI rfl ?_));refine RS.bs2 V360 T28 (fun b3 w3 e3 s3 x3 B3=>?_);refine RS.nm ?_;replace K0:=K0.ext x3;replace R0:=R0.ext x3;refine RS.call E299 (hash (S1:=fun k=>k=b3) _ (by decide) _ _ _ _ _ 2 _ [r,y] _ _ K0 R0 hc (.of_blk B3 rfl rfl rfl (.cons (k:= .u32) (by simp only[lim];omega) (.cons (k:= .u32) (by simp only[lim];omega) (.nil _)))) (by decide)) rfl (fun v4 w4 x4 A4=>?_);subst A4;refine RS.nm ?_;refine RS.move (v:= .tuple _) rfl ?_;refine RS.exI ?_;refine RS.exI ?_;refine RS.asI rfl (RS.asI rfl (nl J2 (wx fun _ J5=>sq fun _ J6=>RS.mvI rfl ?_)));refine RS.on ?_;refine nl J6 ?_;replace hE:=Ext.tr (Ext.tr hE x3) x4;refine C.ifn rfl (fun c7=>?_) (fun c7=>?_)
 ·have he:=c7;refine sq fun _ J8=>RS.mvI rfl (RS.asI rfl (RS.asI rfl (nl J8 (wp_ret ?_))));refine retII ?_;refine⟨_,rfl,hE,?_⟩;rw[if_neg he]
 have he:=c7;have hm:¬9991<m.length:=by intro h;unfold S.hashE at he;rw[if_pos h]at he;omega
 rw[if_neg hm];have hb:=S.hash_bd 99 [r,y] m;refine wp_skip (J5 _ _ (sq fun _ J9=>RS.mvI rfl ?_));refine RS.o (D.rem rfl rfl (by omega) (by omega)) ?_;refine RS.o (D.conv rfl V29 V28 (by first|exact W.u32 (by omega)|exact W.u32m _)) ?_;refine RS.asI rfl (RS.asI rfl (nl J9 (wp_ret ?_)));refine retII ?_;refine⟨_,rfl,hE,?_⟩;rw[he,if_pos rfl,S.chal_eq]
theorem verifyW(y:Int)(hy:0≤y∧y<4294967296)(e s:Int)(he:0≤e∧e<4294967296)(hs:0≤s∧s<4294967296){S0:Nat→Prop}(a:Option Addr)(n c:Nat)(m:List Int)(TK:TypeId)(w:World)(K0:Kst w TK)(R0:IRow .u8 S0 w a n m)(hc:n≤c):
  Calls prog 201 #[.int .u32 y, .slice a n c, .agg ([.int .u32 e, .int .u32 s]:List Value).toArray] w (Ret w fun v _=>v= .int .i64 (S.verS y m e s)):=by
 replace R0:=R0.weaken (T:=fun k=>k<w.heap.size) (fun k hk _=>hk);have hml:=R0.len;refine eE 55 func201 rfl rfl fun hE=>?_
 refine sq fun _ J1=>?_
 refine RS.box rfl rfl (fun b2 w2 e2 s2 x2 B2=>?_);refine RS.nm ?_;refine RS.asI rfl (nl J1 (wx fun _ J3=>sq fun _ J4=>RS.mvI rfl ?_));refine RS.call E265 (group_Is _ (by omega) _) rfl (fun v5 w5 x5 A5=>?_);subst A5;refine RS.nm ?_;refine RS.o (D.not rfl) ?_;refine nl J4 ?_;replace hE:=Ext.tr (Ext.tr hE x2) x5;refine C.ifnot rfl (fun c6=>?_) (fun c6=>?_)
 ·have hG:=c6;refine sAI rfl (wp_ret ?_);refine rI hE ?_;unfold S.verS;rw[if_pos (by simpa using hG)]
 have hG:S.isG y=true:=by simpa using c6
 refine wp_skip (J3 _ _ (wx fun _ J8=>sq fun _ J9=>RS.mvS rfl ?_));refine RS.ln V48 ?_;refine RS.og ?_;refine nl J9 (C.ifd rfl (fun c10=>?_) (fun c10=>?_))
 ·have hL:=c10;refine sAI rfl (wp_ret ?_);refine rI hE ?_;unfold S.verS;rw[if_neg (by simp[hG]),if_pos (by omega)]
 have hL:=c10;refine wp_skip (J8 _ _ (wx fun _ J12=>sq fun _ J13=>?_));refine RS.fl 0 V35 rfl C28 ?_;replace B2:=B2.ext x5;refine RS.ld V28 B2 ?_;refine RS.fl 1 V35 rfl C28 ?_;refine RS.ld V28 B2 ?_;refine RS.o (D.max2 rfl rfl) ?_;refine RS.oe ?_;refine nl J13 (C.ifd rfl (fun c14=>?_) (fun c14=>?_))
 ·have hQ:=c14;refine sAI rfl (wp_ret ?_);refine rI hE ?_;unfold S.verS;rw[if_neg (by simp[hG]),if_neg (by omega),if_pos (by split at hQ<;>omega)]
 have hQ:e<500000003∧s<500000003:=by have:=c14;split at this<;>omega
 refine wp_skip (J12 _ _ (sq fun _ J16=>RS.mvI rfl ?_));refine RS.fl 0 V35 rfl C28 ?_;refine RS.ld V28 B2 ?_;refine RS.cw V28 V29 ?_;refine RS.o (D.sub rfl rfl (W.u64 (by omega))) ?_;refine RS.call E275 (group_Pow _ (by omega) _ (by omega) _) rfl (fun v17 w17 x17 A17=>?_);subst A17;rw[if_pos hG];have hp1:=S.pw_nonneg y (500000003 - e) 1000000007 (by decide);have hp2:=S.pw_lt y (500000003 - e) 1000000007 (by decide);refine RS.nm ?_;refine RS.move (v:= .tuple _) rfl ?_;refine RS.exI ?_;refine RS.exI ?_;refine RS.asI rfl (RS.asI rfl ?_);refine nl J16 (sq fun _ J18=>?_);refine RS.fl 1 V35 rfl C28 ?_;replace B2:=B2.ext x17;refine RS.ld V28 B2 ?_;refine RS.cw V28 V29 ?_;refine RS.call E256 (group_Base _ (by omega) _) rfl (fun v19 w19 x19 A19=>?_);subst A19;rw[S.pub_eq];have hb1:=S.pub_bd s;refine RS.nm ?_;refine RS.mvI rfl ?_;have hmm:(S.isG (S.pubS s)&&S.isG (S.pw y (500000003 - e) 1000000007))=true:=by rw[S.isG_pub s (by omega),S.isG_back _ hG (by omega)];rfl
 refine RS.call E276 (group_Mul _ (by omega) _ (by omega) _) rfl (fun v20 w20 x20 A20=>?_);subst A20;rw[if_pos hmm];have hp3:=Int.emod_nonneg (S.pubS s*S.pw y (500000003 - e) 1000000007) (show(1000000007:Int)≠0 by decide);refine RS.nm ?_;refine RS.move (v:= .tuple _) rfl ?_;refine RS.exI ?_;refine RS.exI ?_;refine RS.asI rfl (RS.asI rfl (nl J18 (wx fun _ J21=>sq fun _ J22=>RS.mvI rfl (RS.mvI rfl (RS.mvS rfl ?_)))));have hh:S.hashE m=0:=by unfold S.hashE;rw[if_neg (by omega)]
 replace K0:=((((K0.ext x2).ext x5).ext x17).ext x19).ext x20;replace R0:=((((R0.ext x2).ext x5).ext x17).ext x19).ext x20;refine RS.call E261 (challenge _ (by omega) _ (by omega) _ _ _ _ _ _ K0 R0 hc) rfl (fun v23 w23 x23 A23=>?_);subst A23;rw[if_pos hh,hh];refine RS.nm ?_;refine RS.move (v:= .tuple _) rfl ?_;refine RS.exI ?_;refine RS.exI ?_;refine RS.asI rfl (RS.asI rfl ?_);refine nl J22 (sq fun _ J24=>?_);refine RS.mvI rfl ?_;refine RS.on ?_;refine RS.mvB rfl ?_;replace hE:=Ext.tr (Ext.tr (Ext.tr (Ext.tr hE x17) x19) x20) x23;refine RS.splitn 52 rfl rfl (fun c25=>?_) (fun c25=>?_)
 ·refine RS.nm ?_;refine RS.skT 52 ?_;refine RS.skT 52 ?_;refine RS.skT 52 ?_;refine RS.skT 52 ?_;refine RS.pkt ?_;refine nl J24 ?_;refine C.ift rfl ?_;refine sAI rfl (wp_ret ?_);refine rI hE ?_;unfold S.verS;rw[if_neg (by simp[hG]),if_neg (by omega),if_neg (by omega)];simp_all
 refine RS.nm ?_;refine RS.wt 52 ?_;refine RS.mvI rfl ?_;refine RS.wt 52 ?_;refine RS.fl 0 V35 rfl C28 ?_;refine RS.wt 52 ?_;replace B2:=((B2.ext x19).ext x20).ext x23;refine RS.ld V28 B2 ?_;refine RS.wt 52 ?_;refine RS.on ?_;refine RS.pk ?_;refine nl J24 (C.ifn rfl (fun c27=>?_) (fun c27=>?_))
 ·refine sAI rfl (wp_ret ?_);refine rI hE ?_;unfold S.verS;rw[if_neg (by simp[hG]),if_neg (by omega),if_neg (by omega)];simp_all
 refine wp_skip (J21 _ _ (sAI rfl (wp_ret ?_)));refine rI hE ?_;unfold S.verS;rw[if_neg (by simp[hG]),if_neg (by omega),if_neg (by omega)];simp_all
theorem F37:SI prog 37 [(0,1),(1,1),(2,1),(3,6),(9,2)]:=⟨_,V37,by kernel_rfl,by kernel_rfl⟩
theorem E201:Enters prog 201:= .mk func201 (by kernel_rfl) rfl
theorem verifyO{S0:Nat→Prop}(o:S.OpV)(ho:o.ok)(pa:Option Addr)(pc:Nat)(TK:TypeId)(w:World)(K0:Kst w TK)(D0:WRow .u8 32 S0 w pa o.n o.ids)(hc:o.n≤pc):
  Calls prog 105 #[.agg ([.int .u32 o.au, .slice pa o.n pc, .int .u64 o.st, .int .u8 o.k, .string o.key, .int .u8 o.vk, .int .i64 o.num, .int .u64 o.bits, .string o.t, .int .u32 o.e, .int .u32 o.s]:List Value).toArray] w (Ret w fun v _=>v= .int .i64 (S.verE o)):=by
 replace D0:=D0.weaken (T:=fun k=>k<w.heap.size) (fun k hk _=>hk);have o1:=ho.au;have o7:=ho.e;have o8:=ho.s;refine eE 21 func105 rfl rfl fun hE=>?_
 refine sq fun _ J1=>?_
 refine RS.box rfl rfl (fun b2 w2 e2 s2 x2 B2=>?_);refine RS.nm ?_;refine RS.asI rfl (nl J1 (wx fun _ J3=>sq fun _ J4=>?_));refine RS.la V37 C37 B2 11 ?_;replace D0:=D0.ext x2;refine RS.call E188 (checkO o ho _ _ _ D0 hc) rfl (fun v5 w5 x5 A5=>?_);subst A5;refine RS.nm ?_;refine RS.asI rfl ?_;refine nl J4 (sq fun _ J6=>?_);refine RS.mvI rfl ?_;refine RS.on ?_;refine nl J6 ?_;replace hE:=Ext.tr (Ext.tr hE x2) x5;refine C.ifn rfl (fun c7=>?_) (fun c7=>?_)
 ·have hk:=c7;refine sq fun _ J8=>RS.mvI rfl (RS.asI rfl (nl J8 (wp_ret ?_)));refine retI rfl rfl ?_;refine⟨_,rfl,hE,?_⟩;unfold S.verE;rw[if_neg hk]
 have hk:=c7;refine wp_skip (J3 _ _ (sq fun _ J9=>?_));replace B2:=B2.ext x5;refine RS.la V37 C37 B2 11 ?_;replace D0:=D0.ext x5;refine RS.call E186 (messageO o ho _ _ _ D0 hc) rfl (fun v10 w10 x10 A10=>?_);obtain⟨a10,n10,c10,xs,rfl,OM,hxs⟩:=A10;rw[if_pos (S.check_bare hk)]at hxs;subst hxs;refine RS.nm ?_;refine RS.move (v:= .tuple _) rfl ?_;refine RS.exS ?_;refine RS.exI ?_;refine RS.asS rfl (RS.asI rfl ?_);refine nl J9 (sq fun _ J11=>?_);refine RS.fl 0 V37 rfl C28 ?_;replace B2:=B2.ext x10;refine RS.ld V28 B2 ?_;refine RS.mvS rfl ?_;refine RS.fl 9 V37 rfl C35 ?_;refine RS.la V35 C35 B2 2 ?_;replace K0:=((K0.ext x2).ext x5).ext x10;refine RS.call E201 (verifyW _ (by omega) _ _ (by omega) (by omega) _ _ _ _ _ _ K0 OM.row OM.own.pre) rfl (fun v12 w12 x12 A12=>?_);subst A12;refine RS.nm ?_;refine RS.asI rfl (nl J11 (wp_ret ?_));refine retI rfl rfl ?_;replace hE:=Ext.tr (Ext.tr hE x10) x12;refine⟨_,rfl,hE,?_⟩;unfold S.verE;rw[if_pos hk]
end W
namespace S
open G
theorem by4_ref(n:Int)(h:0≤n∧n<4294967296):[n / 16777216,n / 65536 % 256,n / 256 % 256,n % 256]=by4 n:=by
 have h1:(2:Int) ^ (24:Int).toNat=16777216:=by decide
 have h2:(2:Int) ^ (16:Int).toNat=65536:=by decide
 have h3:(2:Int) ^ (8:Int).toNat=256:=by decide
 unfold by4;rw[h1,h2,h3,Int.emod_eq_of_lt (a:=n / 16777216) (by omega) (by omega)]
theorem head_one(k x:Int):headS k [x]=[k]++by4 x:=by simp[headS]
theorem head_two(k x y:Int):headS k [x,y]=([k]++by4 x)++by4 y:=by simp[headS]
theorem be_grow(xs:List Int)(i:Nat)(hi:i<xs.length):256*be (xs.take i)+xs.getD i 0=be (xs.take (i+1)):=by
 rw[take_snoc xs i hi,be_snoc,Int.mul_comm]
theorem be7_lt(xs:List Int)(i:Nat)(hB:Bd .u8 xs)(hi:i≤7):be (xs.take i)<72057594037927936:=by
 have hb:=be_bd _ (hB.take i);have hp:(256:Int) ^ (xs.take i).length≤256 ^ 7:=pow256 (by simp;omega);have h256:(256:Int) ^ 7=72057594037927936:=by decide
 omega
theorem fine4{k:Int}{key:ByteArray}{vk num bits:Int}{t:ByteArray}(h:FineAct k key vk num bits t)(h4:k=4):FineV vk num bits t:=by
 rcases h with⟨h1,_⟩|⟨h1,_⟩|⟨_,_,h1⟩
 ·omega
 ·omega
 ·exact h1
end S
namespace W
open Go.RowKit G
set_option maxRecDepth 20000
set_option maxHeartbeats 8000000
attribute [local irreducible] RS RX
theorem E86:Enters prog 86:= .mk func86 (by kernel_rfl) rfl
theorem E87:Enters prog 87:= .mk func87 (by kernel_rfl) rfl
theorem E88:Enters prog 88:= .mk func88 (by kernel_rfl) rfl
theorem E89:Enters prog 89:= .mk func89 (by kernel_rfl) rfl
theorem E90:Enters prog 90:= .mk func90 (by kernel_rfl) rfl
theorem E91:Enters prog 91:= .mk func91 (by kernel_rfl) rfl
theorem E172:Enters prog 172:= .mk func172 (by kernel_rfl) rfl
theorem E176:Enters prog 176:= .mk func176 (by kernel_rfl) rfl
theorem E177:Enters prog 177:= .mk func177 (by kernel_rfl) rfl
theorem E178:Enters prog 178:= .mk func178 (by kernel_rfl) rfl
theorem E179:Enters prog 179:= .mk func179 (by kernel_rfl) rfl
theorem E248:Enters prog 248:= .mk func248 (by kernel_rfl) rfl
theorem E252:Enters prog 252:= .mk func252 (by kernel_rfl) rfl
theorem E253:Enters prog 253:= .mk func253 (by kernel_rfl) rfl
theorem raisedR(a:Int)(ha:0≤a∧a<4294967296)(n:Int)(hn:0≤n∧n<18446744073709551616)(w:World):
  Calls prog 248 #[.int .u32 a, .int .u64 n] w (Ret w fun v _=>v= .int .u32 (S.pw a n 1000000007)):=by
 have hp1:=S.pw_nonneg a n 1000000007 (by decide);have hp2:=S.pw_lt a n 1000000007 (by decide);refine eE 8 func248 rfl rfl fun hE=>?_
 refine sq fun _ J1=>RS.asI rfl ?_;refine nl J1 (sq fun _ J2=>?_);refine RS.mvI rfl ?_;refine RS.cw V28 V29 ?_;refine RS.mvI rfl ?_;refine RS.call E249 (ref_power _ _ _ (by omega) (by omega) (by omega) _) rfl (fun v3 w3 x3 A3=>?_);subst A3;refine RS.nm ?_;refine RS.o (D.conv rfl V29 V28 (W.u32 (by omega))) ?_;refine RS.asI rfl (nl J2 (wp_ret ?_));refine retI rfl rfl ?_;replace hE:=Ext.tr hE x3;exact⟨_,rfl,hE,rfl⟩
theorem baseR(n:Int)(hn:0≤n∧n<18446744073709551616)(w:World):
  Calls prog 172 #[.int .u64 n] w (Ret w fun v _=>v= .int .u32 (S.pubS n)):=by
 refine eE 4 func172 rfl rfl fun hE=>?_
 refine sq fun _ J1=>RS.asI rfl ?_;refine nl J1 (sq fun _ J2=>?_);refine RS.mvI rfl ?_;refine RS.call E248 (raisedR _ (by decide) _ hn _) rfl (fun v3 w3 x3 A3=>?_);subst A3;rw[S.pub_eq];refine RS.nm ?_;refine RS.asI rfl (nl J2 (wp_ret ?_));refine retI rfl rfl ?_;replace hE:=Ext.tr hE x3;exact⟨_,rfl,hE,rfl⟩
theorem keyRf(x:Int)(hx:0≤x∧x<4294967296)(w:World):
  Calls prog 89 #[.int .u32 x] w (Ret w fun v _=>v= .int .u32 (S.pubS x)):=by
 refine eE 5 func89 rfl rfl fun hE=>?_
 refine sq fun _ J1=>RS.asI rfl ?_;refine nl J1 (sq fun _ J2=>?_);refine RS.mvI rfl ?_;refine RS.cw V28 V29 ?_;refine RS.call E172 (baseR _ (by omega) _) rfl (fun v3 w3 x3 A3=>?_);subst A3;refine RS.nm ?_;refine RS.asI rfl (nl J2 (wp_ret ?_));refine retI rfl rfl ?_;replace hE:=Ext.tr hE x3;exact⟨_,rfl,hE,rfl⟩
theorem productR(a:Int)(ha:0≤a∧a<4294967296)(b:Int)(hb:0≤b∧b<4294967296)(w:World):
  Calls prog 278 #[.int .u32 a, .int .u32 b] w (Ret w fun v _=>v= .int .u32 (a*b % 1000000007)):=by
 have hm:=S.mul32 ha hb;have hr1:=Int.emod_nonneg (a*b) (show(1000000007:Int)≠0 by decide);refine eE 10 func278 rfl rfl fun hE=>?_
 refine sq fun _ J1=>RS.asI rfl ?_;refine nl J1 (sq fun _ J2=>?_);refine RS.mvI rfl ?_;refine RS.cw V28 V29 ?_;refine RS.mvI rfl ?_;refine RS.cw V28 V29 ?_;refine RS.o (D.mul rfl rfl (W.u64 (by omega))) ?_;refine RS.o (D.rem rfl rfl (by omega) (by omega)) ?_;refine RS.o (D.conv rfl V29 V28 (W.u32 (by omega))) ?_;refine RS.asI rfl (nl J2 (wp_ret ?_));refine retI rfl rfl ?_;exact⟨_,rfl,hE,rfl⟩
theorem sumR(a:Int)(ha:0≤a∧a<4294967296)(b:Int)(hb:0≤b∧b<4294967296)(w:World):
  Calls prog 178 #[.int .u32 a, .int .u32 b] w (Ret w fun v _=>v= .int .u32 ((a+b) % 500000003)):=by
 refine eE 10 func178 rfl rfl fun hE=>?_
 refine sq fun _ J1=>RS.asI rfl ?_;refine nl J1 (sq fun _ J2=>?_);refine RS.mvI rfl ?_;refine RS.cw V28 V29 ?_;refine RS.mvI rfl ?_;refine RS.cw V28 V29 ?_;refine RS.o (D.add rfl rfl (W.u64 (by omega))) ?_;refine RS.o (D.rem rfl rfl (by omega) (by omega)) ?_;refine RS.o (D.conv rfl V29 V28 (W.u32 (by omega))) ?_;refine RS.asI rfl (nl J2 (wp_ret ?_));refine retI rfl rfl ?_;exact⟨_,rfl,hE,rfl⟩
theorem scaledR(a:Int)(ha:0≤a∧a<4294967296)(b:Int)(hb:0≤b∧b<4294967296)(w:World):
  Calls prog 179 #[.int .u32 a, .int .u32 b] w (Ret w fun v _=>v= .int .u32 (a*b % 500000003)):=by
 have hm:=S.mul32 ha hb;have hr1:=Int.emod_nonneg (a*b) (show(500000003:Int)≠0 by decide);have hr2:=Int.emod_lt_of_pos (a*b) (show(0:Int)<500000003 by decide);refine eE 10 func179 rfl rfl fun hE=>?_
 refine sq fun _ J1=>RS.asI rfl ?_;refine nl J1 (sq fun _ J2=>?_);refine RS.mvI rfl ?_;refine RS.cw V28 V29 ?_;refine RS.mvI rfl ?_;refine RS.cw V28 V29 ?_;refine RS.o (D.mul rfl rfl (W.u64 (by omega))) ?_;refine RS.o (D.rem rfl rfl (by omega) (by omega)) ?_;refine RS.o (D.conv rfl V29 V28 (W.u32 (by omega))) ?_;refine RS.asI rfl (nl J2 (wp_ret ?_));refine retI rfl rfl ?_;exact⟨_,rfl,hE,rfl⟩
theorem secR(x:Int)(hx:0≤x∧x<4294967296)(w:World):
  Calls prog 86 #[.int .u32 x] w (Ret w fun v _=>v= .int .i64 (S.secE x)):=by
 refine eE 9 func86 rfl rfl fun hE=>?_
 refine sAI rfl (wx fun _ J2=>sq fun _ J3=>RS.mvI rfl ?_);refine RS.oq ?_;refine RS.mvB rfl ?_;refine RS.splite 5 rfl rfl (fun c4=>?_) (fun c4=>?_)
 ·refine RS.nm ?_;refine RS.skT 5 ?_;refine RS.skT 5 ?_;refine RS.skT 5 ?_;refine RS.pkt ?_;refine nl J3 ?_;refine C.ift rfl ?_;refine sAI rfl (wp_ret ?_);refine rI hE ?_;unfold S.secE;first|rw[if_pos (by omega)]|rw[if_neg (by omega)]
 refine RS.nm ?_;refine RS.wt 5 ?_;refine RS.mvI rfl ?_;refine RS.wt 5 ?_;refine RS.cw V28 V29 ?_;refine RS.wt 5 ?_;refine RS.oe ?_;refine RS.pk ?_;refine nl J3 (C.ifd rfl (fun c6=>?_) (fun c6=>?_))
 ·refine sAI rfl (wp_ret ?_);refine rI hE ?_;unfold S.secE;first|rw[if_pos (by omega)]|rw[if_neg (by omega)]
 refine wp_skip (J2 _ _ (sAI rfl (wp_ret ?_)));refine rI hE ?_;unfold S.secE;first|rw[if_pos (by omega)]|rw[if_neg (by omega)]
theorem fourR(x:Int)(hx:0≤x∧x<4294967296)(w:World):
  Calls prog 252 #[.int .u32 x] w (Ret w fun v w'=>∃a' c',v= .slice a' 4 c'∧IOwn w.heap.size w' 5 .u8 a' 4 c' (S.by4 x)):=by
 refine eE 17 func252 rfl rfl fun hE=>?_
 refine sq fun _ J1=>RS.asS rfl ?_;refine nl J1 (sq fun _ J2=>?_);refine RS.mvI rfl ?_;refine RS.o (D.quo rfl rfl (by omega) (by omega) (W.u32 (by omega))) ?_;refine RS.cu V28 V5 ?_;refine RS.mvI rfl ?_;refine RS.o (D.quo rfl rfl (by omega) (by omega) (W.u32 (by omega))) ?_;refine RS.o (D.rem rfl rfl (by omega) (by omega)) ?_;refine RS.cu V28 V5 ?_;refine RS.mvI rfl ?_;refine RS.o (D.quo rfl rfl (by omega) (by omega) (W.u32 (by omega))) ?_;refine RS.o (D.rem rfl rfl (by omega) (by omega)) ?_;refine RS.cu V28 V5 ?_;refine RS.mvI rfl ?_;refine RS.o (D.rem rfl rfl (by omega) (by omega)) ?_;refine RS.cu V28 V5 ?_;refine RS.buildSlice (xs:=[.tmp 5, .tmp 9, .tmp 13, .tmp 16]) (vs:=[.int _ _, .int _ _, .int _ _, .int _ _]) (cs:=[.int _ _, .int _ _, .int _ _, .int _ _]) V48 T5 (by decide) rfl rfl rfl rfl rfl rfl (by intro v hv;simp only[List.mem_cons,List.not_mem_nil,or_false]at hv;rcases hv with rfl|rfl|rfl|rfl<;>rfl) rfl (fun b3 w3 e3 s3 x3 B3=>?_);refine RS.nm ?_;have O1:IOwn w.heap.size w3 5 .u8 (some ⟨b3,0,none⟩) 4 4 [_,_,_,_]:=IOwn.of_blk B3 rfl rfl (by omega) (.cons (by simp only[lim];omega) (.cons (by simp only[lim];omega) (.cons (by simp only[lim];omega) (.cons (by simp only[lim];omega) (.nil _))))) (by decide);refine RS.asS rfl (nl J2 (wp_ret ?_));refine retS ?_;rw[S.by4_ref x hx]at O1;replace hE:=Ext.tr hE x3;exact⟨_,rfl,hE,_,_,rfl,O1.base (fun k hk=>by have:=O1.lo k hk;omega)⟩
theorem numberR{S0:Nat→Prop}(a:Option Addr)(n c:Nat)(m:List Int)(w:World)(R0:IRow .u8 S0 w a n m)(hn:n≤200000)(hc:n≤c):
  Calls prog 253 #[.slice a n c] w (Ret w fun v _=>v= .int .u64 (S.be ((S.sha m).take 8))):=by
 replace R0:=R0.weaken (T:=fun k=>k<w.heap.size) (fun k hk _=>hk);refine eE 19 func253 rfl rfl fun hE=>?_
 refine sq fun _ J1=>RS.asI rfl ?_;refine nl J1 (sq fun _ J2=>?_);refine RS.mvS rfl ?_;refine RS.call E112 (of _ _ _ _ _ R0 hn hc) rfl (fun v3 w3 x3 A3=>?_);have zw3:=x3.size;subst A3;have hsa:=S.sha_arr m;refine RS.nm ?_;refine RS.alloc T24 (fun b4 w4 e4 s4 x4 B4=>?_);refine RS.nm ?_;have A4:IArr .u8 w4 b4 32 (List.replicate 32 0) [] 24:=IArr.zero B4;clear B4;refine RS.storeArr A4 rfl rfl C24 (by decide) hsa.1 hsa.2 (fun w5 y5 N5=>?_);have zw5:=y5.size;replace A4:=N5;refine nl J2 (sq fun _ J6=>?_);refine RS.asI rfl (nl J6 (wx fun _ J7=>sAI rfl (wp_block ?_)));refine C.loop (A:=Int×Int) (fun p=>[(4, .int .u64 p.2),(5, .int .i64 p.1)]) [8,9,10,11,12,13,14,15,16,17,18] (fun p w'=>Ext w5 w'∧((0≤p.1∧p.1≤8)∧p.2=S.be ((S.sha m).take p.1.toNat))) (fun p=>(8 - p.1.toNat)) (0,0) (by kernel_rfl) ?_ ?_
 ·exact⟨Ext.refl _,⟨by dsimp only;omega,by dsimp only;omega⟩,rfl⟩
 rintro p j w9 ⟨x9,hI⟩;obtain⟨i,r⟩:=p;dsimp only at hI;obtain⟨g1,g2⟩:=hI;have g3:=S.be8_lt (S.sha m) i.toNat hsa.2 (by omega);rw[←g2]at g3;refine C.nmU ?_;refine wx fun _ J10=>sq fun _ J11=>RS.mvI rfl ?_;refine RS.ol ?_;refine nl J11 (C.ifd rfl (fun c12=>?_) (fun c12=>?_))
 ·have g4:=S.be7_lt (S.sha m) i.toNat hsa.2 (by omega);rw[←g2]at g4;refine wp_skip (J10 _ _ (wx fun _ J13=>wp_block (region (RS.mvI rfl ?_))));refine RS.o (D.mul rfl rfl (W.u64 (by omega))) ?_;refine RS.mvI rfl ?_;replace A4:=A4.ext x9;refine RS.idxA A4 rfl rfl V24 C5 (by omega) (fun v14 h14 q14 r14=>?_);refine RS.nm ?_;simp only[lim]at r14;have q2:=q14;have hgr:=S.be_grow (S.sha m) i.toNat (by rw[hsa.1];omega);rw[←g2,←q2]at hgr;have hb8:=S.be8_lt (S.sha m) (i.toNat+1) hsa.2 (by omega);rw[←hgr]at hb8;refine RS.o (D.load rfl V5 rfl (h14)) ?_;refine RS.cw V5 V29 ?_;refine RS.o (D.add rfl rfl (W.u64 (by omega))) ?_;refine RS.asI rfl (nl J13 (region (RS.mvI rfl ?_)));refine RS.adi ?_;refine RS.asI rfl (RS.nil ?_);change Nx _ _ _ _ _ _ _ _;refine C.next (i+1,_) ⟨rfl,rfl,trivial⟩ (by kernel_rfl) ?_ ?_
  ·refine⟨x9,⟨by dsimp only;omega,by dsimp only;omega⟩,?_⟩;dsimp only;rw[show(i+1).toNat=i.toNat+1 by omega,←hgr]
  dsimp only;omega
 refine wp_exit (J7 _ _ (sq fun _ J15=>RS.mvI rfl (RS.asI rfl (nl J15 (wp_ret ?_)))));refine retI rfl rfl ?_;rw[g2,show i.toNat=8 by omega];replace hE:=Ext.tr ((Ext.tr (Ext.tr hE x3) x4).trans y5.belo) x9;exact⟨_,rfl,hE,rfl⟩
theorem nonceRf(x:Int)(hx:0≤x∧x<4294967296){S0:Nat→Prop}(a:Option Addr)(n c:Nat)(m:List Int)(w:World)(R0:IRow .u8 S0 w a n m)(hn:n≤100000):
  Calls prog 176 #[.int .u32 x, .slice a n c] w (Ret w fun v _=>v= .int .u32 (S.nonceS x m)):=by
 replace R0:=R0.weaken (T:=fun k=>k<w.heap.size) (fun k hk _=>hk);refine eE 15 func176 rfl rfl fun hE=>?_
 refine sq fun _ J1=>RS.asI rfl ?_;refine nl J1 (sq fun _ J2=>?_);refine RS.bs1 V48 T5 (fun b3 w3 e3 s3 x3 B3=>?_);refine RS.nm ?_;have zw3:=x3.size;have O1:IOwn w.heap.size w3 5 .u8 (some ⟨b3,0,none⟩) 1 1 [_]:=IOwn.of_blk B3 rfl rfl (by omega) (.cons (by simp only[lim];omega) (.nil _)) (by decide);refine RS.mvI rfl ?_;refine RS.call E252 (fourR x (by omega) _) rfl (fun v4 w4 x4 A4=>?_);have zw4:=x4.size;obtain⟨aF,cF,rfl,OF⟩:=A4;refine RS.nm ?_;replace O1:=O1.ext x4;refine RS.appendI O1 OF.row rfl rfl V48 T5 rfl (by omega) (by decide) (by omega) (fun a5 c5 w5 N5 x5=>?_);refine RS.nm ?_;replace hE:=Ext.tr (Ext.tr hE x3) x4;replace hE:=hE.trans (x5.belQ (fun _ h=>(O1.lo _ h).1));replace R0:=(R0.ext x3).ext x4;replace R0:=R0.prQ x5 (fun _ h=>(O1.lo _ h).1);have zw5:=x5.size;replace O1:=N5;refine RS.asS rfl ?_;refine nl J2 (sq fun _ J6=>?_);refine RS.mvS rfl (RS.mvS rfl ?_);refine RS.appendI O1 R0 rfl rfl V48 T5 rfl (by omega) (by decide) (by omega) (fun a7 c7 w7 N7 x7=>?_);refine RS.nm ?_;replace hE:=hE.trans (x7.belQ (fun _ h=>(O1.lo _ h).1));replace R0:=R0.prQ x7 (fun _ h=>(O1.lo _ h).1);have zw7:=x7.size;replace O1:=N7;refine RS.call E253 (numberR _ _ _ _ _ O1.row (by omega) O1.own.pre) rfl (fun v8 w8 x8 A8=>?_);have zw8:=x8.size;subst A8;rw[←S.head_one,S.hash_eq];have hhb:=S.hash_bd 110 [x] m;refine RS.nm ?_;refine RS.o (D.rem rfl rfl (by omega) (by omega)) ?_;refine RS.o (D.conv rfl V29 V28 (W.u32 (by omega))) ?_;refine RS.o (D.add rfl rfl (W.u32 (by omega))) ?_;refine RS.asI rfl (nl J6 (wp_ret ?_));refine retI rfl rfl ?_;replace hE:=Ext.tr hE x8;refine⟨_,rfl,hE,?_⟩;rw[S.nonce_eq]
theorem chalRf(r:Int)(hr:0≤r∧r<4294967296)(y:Int)(hy:0≤y∧y<4294967296){S0:Nat→Prop}(a:Option Addr)(n c:Nat)(m:List Int)(w:World)(R0:IRow .u8 S0 w a n m)(hn:n≤100000):
  Calls prog 177 #[.int .u32 r, .int .u32 y, .slice a n c] w (Ret w fun v _=>v= .int .u32 (S.chalS r y m)):=by
 replace R0:=R0.weaken (T:=fun k=>k<w.heap.size) (fun k hk _=>hk);refine eE 18 func177 rfl rfl fun hE=>?_
 refine sq fun _ J1=>RS.asI rfl ?_;refine nl J1 (sq fun _ J2=>?_);refine RS.bs1 V48 T5 (fun b3 w3 e3 s3 x3 B3=>?_);refine RS.nm ?_;have O1:IOwn w.heap.size w3 5 .u8 (some ⟨b3,0,none⟩) 1 1 [_]:=IOwn.of_blk B3 rfl rfl (by omega) (.cons (by simp only[lim];omega) (.nil _)) (by decide);refine RS.mvI rfl ?_;refine RS.call E252 (fourR r (by omega) _) rfl (fun v4 w4 x4 A4=>?_);have zw4:=x4.size;obtain⟨aF,cF,rfl,OF⟩:=A4;refine RS.nm ?_;replace O1:=O1.ext x4;refine RS.appendI O1 OF.row rfl rfl V48 T5 rfl (by omega) (by decide) (by omega) (fun a5 c5 w5 N5 x5=>?_);refine RS.nm ?_;replace hE:=Ext.tr (Ext.tr hE x3) x4;replace hE:=hE.trans (x5.belQ (fun _ h=>(O1.lo _ h).1));replace R0:=(R0.ext x3).ext x4;replace R0:=R0.prQ x5 (fun _ h=>(O1.lo _ h).1);have zw5:=x5.size;replace O1:=N5;refine RS.mvI rfl ?_;refine RS.call E252 (fourR y (by omega) _) rfl (fun v6 w6 x6 A6=>?_);have zw6:=x6.size;obtain⟨aF,cF,rfl,OF⟩:=A6;refine RS.nm ?_;replace O1:=O1.ext x6;refine RS.appendI O1 OF.row rfl rfl V48 T5 rfl (by omega) (by decide) (by omega) (fun a7 c7 w7 N7 x7=>?_);refine RS.nm ?_;replace hE:=Ext.tr hE x6;replace hE:=hE.trans (x7.belQ (fun _ h=>(O1.lo _ h).1));replace R0:=R0.ext x6;replace R0:=R0.prQ x7 (fun _ h=>(O1.lo _ h).1);have zw7:=x7.size;replace O1:=N7;refine RS.asS rfl ?_;refine nl J2 (sq fun _ J8=>?_);refine RS.mvS rfl (RS.mvS rfl ?_);refine RS.appendI O1 R0 rfl rfl V48 T5 rfl (by omega) (by decide) (by omega) (fun a9 c9 w9 N9 x9=>?_);refine RS.nm ?_;replace hE:=hE.trans (x9.belQ (fun _ h=>(O1.lo _ h).1));replace R0:=R0.prQ x9 (fun _ h=>(O1.lo _ h).1);replace O1:=N9;refine RS.call E253 (numberR _ _ _ _ _ O1.row (by omega) O1.own.pre) rfl (fun v10 w10 x10 A10=>?_);subst A10;rw[←S.head_two,S.hash_eq];have hhb:=S.hash_bd 99 [r,y] m;refine RS.nm ?_;refine RS.o (D.rem rfl rfl (by omega) (by omega)) ?_;refine RS.o (D.conv rfl V29 V28 (W.u32 (by omega))) ?_
 refine RS.asI rfl (nl J8 (wp_ret ?_));refine retI rfl rfl ?_;replace hE:=Ext.tr hE x10;refine⟨_,rfl,hE,?_⟩;rw[S.chal_eq]
theorem signedRf(x:Int)(hx:0≤x∧x<4294967296){S0:Nat→Prop}(a:Option Addr)(n c:Nat)(m:List Int)(w:World)(R0:IRow .u8 S0 w a n m)(hn:n≤100000)(hx2:x<500000003):
  Calls prog 91 #[.int .u32 x, .slice a n c] w (Ret w fun v _=>v= .agg ([.int .u32 (S.sigE x m), .int .u32 (S.sigS x m)]:List Value).toArray):=by
 replace R0:=R0.weaken (T:=fun k=>k<w.heap.size) (fun k hk _=>hk);have hb1:=S.nonce_bd x m;have hb2:=S.pub_bd x;have hb3:=S.pub_bd (S.nonceS x m);have hb4:=S.sig_bd x m;refine eE 21 func91 rfl rfl fun hE=>?_
 refine sq fun _ J1=>?_
 refine RS.alloc T35 (fun b2 w2 e2 s2 x2 B2=>?_);refine RS.nm ?_;have zw2:=x2.size;refine nl J1 (sq fun _ J3=>?_);refine RS.mvI rfl (RS.mvS rfl ?_);replace R0:=R0.ext x2;refine RS.call E176 (nonceRf x hx _ _ _ _ _ R0 hn) rfl (fun v4 w4 x4 A4=>?_);have zw4:=x4.size;subst A4;refine RS.nm ?_;refine RS.asI rfl ?_;refine nl J3 (sq fun _ J5=>?_);refine RS.mvI rfl ?_;refine RS.call E89 (keyRf _ (by omega) _) rfl (fun v6 w6 x6 A6=>?_);have zw6:=x6.size;subst A6;refine RS.nm ?_;refine RS.mvI rfl ?_;refine RS.call E89 (keyRf _ (by omega) _) rfl (fun v7 w7 x7 A7=>?_);have zw7:=x7.size;subst A7;refine RS.nm ?_;refine RS.mvS rfl ?_;replace R0:=((R0.ext x4).ext x6).ext x7;refine RS.call E177 (chalRf _ (by omega) _ (by omega) _ _ _ _ _ R0 hn) rfl (fun v8 w8 x8 A8=>?_);have zw8:=x8.size;subst A8;rw[S.sigE_eq];refine RS.nm ?_;refine RS.asI rfl ?_;refine nl J5 (sq fun _ J9=>?_);refine RS.mvI rfl (RS.mvI rfl (RS.mvI rfl (RS.mvI rfl ?_)));refine RS.call E179 (scaledR _ (by omega) _ (by omega) _) rfl (fun v10 w10 x10 A10=>?_);have zw10:=x10.size;subst A10;have hsr1:=Int.emod_nonneg (S.sigE x m*x) (show(500000003:Int)≠0 by decide);have hsr2:=Int.emod_lt_of_pos (S.sigE x m*x) (show(0:Int)<500000003 by decide);refine RS.nm ?_;refine RS.call E178 (sumR _ (by omega) _ (by omega) _) rfl (fun v11 w11 x11 A11=>?_);have zw11:=x11.size;subst A11;rw[S.sigS_eq];refine RS.nm ?_;refine RS.o (D.buildS T35 F35 (ps:=[(0, .int _ _),(1, .int _ _)]) rfl rfl) ?_;replace B2:=(((((B2.ext x4).ext x6).ext x7).ext x8).ext x10).ext x11;refine RS.sa C35 B2 (fun w12 y12 N12=>?_);have zw12:=y12.size;replace B2:=N12;refine nl J9 (wp_ret ?_);refine retA V35 C35 B2 2 ?_;replace hE:=(Ext.tr (Ext.tr (Ext.tr (Ext.tr (Ext.tr (Ext.tr (Ext.tr hE x2) x4) x6) x7) x8) x10) x11).trans y12.belo;exact⟨_,rfl,hE,rfl⟩
theorem signOR(x:Int)(hx:0≤x∧x<4294967296){S0:Nat→Prop}(o:S.OpV)(ho:o.ok)(pa:Option Addr)(pc:Nat)(w:World)(D0:WRow .u8 32 S0 w pa o.n o.ids)(hc:o.n≤pc):
  Calls prog 13 #[.int .u32 x, .agg ([.int .u32 o.au, .slice pa o.n pc, .int .u64 o.st, .int .u8 o.k, .string o.key, .int .u8 o.vk, .int .i64 o.num, .int .u64 o.bits, .string o.t, .int .u32 o.e, .int .u32 o.s]:List Value).toArray] w (Ret w fun v w'=>∃a' c',v= .tuple #[.agg ([.int .u32 (S.signS x o).au, .slice a' (S.signS x o).n c', .int .u64 (S.signS x o).st, .int .u8 (S.signS x o).k, .string (S.signS x o).key, .int .u8 (S.signS x o).vk, .int .i64 (S.signS x o).num, .int .u64 (S.signS x o).bits, .string (S.signS x o).t, .int .u32 (S.signS x o).e, .int .u32 (S.signS x o).s]:List Value).toArray, .int .i64 (S.signE x o)]∧(S.signS x o).n≤c'∧WRow .u8 32 (fun k=>w.heap.size≤k) w' a' (S.signS x o).n (S.signS x o).ids):=by
 replace D0:=D0.weaken (T:=fun k=>k<w.heap.size) (fun k hk _=>hk);have o1:=ho.au;have o2:=ho.st;have o3:=ho.k;have o4:=ho.vk;have o5:=ho.num;have o6:=ho.bits;have o7:=ho.e;have o8:=ho.s;have o9:=ho.n;have o10:=ho.key;have o11:=ho.t;have el:=D0.len;have hb2:=S.pub_bd x;have hwo:=S.OpV.bare_ok (S.OpV.wit_ok x ho);refine eE 29 func13 rfl rfl fun hE=>?_
 refine sq fun _ J1=>?_
 refine RS.box rfl rfl (fun b2 w2 e2 s2 x2 B2=>?_);refine RS.nm ?_;have zw2:=x2.size;refine RS.alloc T37 (fun b3 w3 e3 s3 x3 B3=>?_);refine RS.nm ?_;have zw3:=x3.size;refine RS.asI rfl (nl J1 (wx fun _ J4=>sq fun _ J5=>RS.mvI rfl ?_));refine RS.call E86 (secR x hx _) rfl (fun v6 w6 x6 A6=>?_);have zw6:=x6.size;subst A6;refine RS.nm ?_;refine RS.on ?_;refine nl J5 ?_;replace hE:=Ext.tr (Ext.tr (Ext.tr hE x2) x3) x6;replace B3:=B3.ext x6;refine C.ifn rfl (fun c7=>?_) (fun c7=>?_)
 ·have hz:=c7;refine sq fun _ J8=>?_
  refine RS.o (D.buildS T37 F37 (ps:=[]) rfl rfl) ?_;refine RS.mvI rfl ?_;refine RS.call E86 (secR x hx _) rfl (fun v9 w9 x9 A9=>?_);have zw9:=x9.size;subst A9;refine RS.nm ?_;replace B3:=B3.ext x9;refine RS.sa C37 B3 (fun w10 y10 N10=>?_);have zw10:=y10.size;replace B3:=N10;refine RS.asI rfl (nl J8 (wp_ret ?_));refine retAI V37 C37 B3 11 ?_;have e1:S.signE x o=S.secE x:=by unfold S.signE;rw[if_neg hz,S.secE_two hz]
  have e2:S.signS x o=S.OpV.zero:=by unfold S.signS;rw[if_neg (by rw[e1];exact hz)]
  rw[e1,e2];replace hE:=(Ext.tr hE x9).trans y10.belo;exact⟨_,rfl,hE,_,_,rfl,Nat.le_refl _,WRow.nil⟩
 have hz:=c7;have hx2:=S.secE_zero.1 hz;refine wp_skip (J4 _ _ (sq fun _ J11=>?_));replace B2:=(B2.ext x3).ext x6;refine RS.la V37 C37 B2 11 ?_;refine RS.call E88 (bareR o pa pc _) rfl (fun v12 w12 x12 A12=>?_);have zw12:=x12.size;subst A12;refine RS.nm ?_;replace D0:=(((D0.ext x2).ext x3).ext x6).ext x12;refine RS.call E87 (twin o.bare (S.OpV.bare_ok ho) _ _ _ D0 hc) rfl (fun v13 w13 x13 A13=>?_);have zw13:=x13.size;obtain⟨aW,cW,rfl,hcW,OW⟩:=A13;have DW:=OW.row.weaken (T:=fun k=>w.heap.size+1<k∧k<w13.heap.size) (fun k hk h=>by omega);refine RS.nm ?_;refine RS.alloc T37 (fun b14 w14 e14 s14 x14 B14=>?_);refine RS.nm ?_;have zw14:=x14.size;refine RS.sa C37 B14 (fun w15 y15 N15=>?_);have zw15:=y15.size;replace B14:=N15;refine nl J11 (sq fun _ J16=>?_);refine RS.mvI rfl ?_;refine RS.call E89 (keyRf x hx _) rfl (fun v17 w17 x17 A17=>?_);have zw17:=x17.size;subst A17;refine RS.nm ?_;refine RS.fl 0 V37 rfl C28 ?_;replace B14:=B14.ext x17;refine RS.store rfl (v:= .int _ _) rfl C28 rfl B14 rfl (fun w18 y18 N18=>?_);have zw18:=y18.size;replace B14:=N18;refine nl J16 (wx fun _ J19=>sq fun _ J20=>?_);refine RS.la V37 C37 B14 11 ?_;replace DW:=(((DW.ext x14).sto y15).ext x17).sto y18;refine RS.call E90 (checkOR (o.wit x).bare hwo _ _ _ DW hcW) rfl (fun v21 w21 x21 A21=>?_);have zw21:=x21.size;subst A21;refine RS.nm ?_;refine RS.on ?_;refine nl J20 ?_;replace hE:=Ext.tr ((Ext.tr ((Ext.tr (Ext.tr (Ext.tr hE x12) x13) x14).trans y15.belo) x17).trans y18.belo) x21;replace B3:=((((((B3.ext x12).ext x13).ext x14).sto y15).ext x17).sto y18).ext x21;replace DW:=DW.ext x21;replace B14:=B14.ext x21;refine C.ifn rfl (fun c22=>?_) (fun c22=>?_)
 ·have hk:=c22;refine sq fun _ J23=>?_
  refine RS.o (D.buildS T37 F37 (ps:=[]) rfl rfl) ?_;refine RS.la V37 C37 B14 11 ?_;refine RS.call E90 (checkOR (o.wit x).bare hwo _ _ _ DW hcW) rfl (fun v24 w24 x24 A24=>?_);have zw24:=x24.size;subst A24;refine RS.nm ?_;replace B3:=B3.ext x24;refine RS.sa C37 B3 (fun w25 y25 N25=>?_);have zw25:=y25.size;replace B3:=N25;refine RS.asI rfl (nl J23 (wp_ret ?_));refine retAI V37 C37 B3 11 ?_;have e1:S.signE x o=S.checkE (o.wit x).bare:=by unfold S.signE;rw[if_pos hz]
  have e2:S.signS x o=S.OpV.zero:=by unfold S.signS;rw[if_neg (by rw[e1];exact hk)]
  rw[e1,e2];replace hE:=(Ext.tr hE x24).trans y25.belo;exact⟨_,rfl,hE,_,_,rfl,Nat.le_refl _,WRow.nil⟩
 have hk:=c22;obtain⟨z1,z2,z3⟩:=S.check_zero.1 hk;have hF4:(o.wit x).bare.k=4→S.FineV o.vk o.num o.bits o.t:=S.fine4 z3.2.2.2.2;refine wp_skip (J19 _ _ (sq fun _ J26=>RS.mvI rfl ?_));refine RS.la V37 C37 B14 11 ?_;refine RS.call E92 (textOR (o.wit x).bare hwo _ _ _ DW hcW z1 hF4) rfl (fun v27 w27 x27 A27=>?_);have zw27:=x27.size;obtain⟨aT,nT,cT,rfl,OT⟩:=A27;have lOT:=OT.len;have mlT:=S.msg_len (o.wit x).bare hwo z1 el;refine RS.nm ?_;refine RS.call E91 (signedRf x hx _ _ _ _ _ OT.row (by omega) (by omega)) rfl (fun v28 w28 x28 A28=>?_);have zw28:=x28.size;subst A28;refine RS.nm ?_;refine RS.fl 9 V37 rfl C35 ?_;replace B14:=(B14.ext x27).ext x28;refine RS.sa C35 B14 (fun w29 y29 N29=>?_);replace OT:=OT.ext x28;replace OT:=OT.stQ y29 (fun _ h=>(OT.own.lo _ h).1);have zw29:=y29.size;replace B14:=N29;refine nl J26 (sq fun _ J30=>?_);refine RS.la V37 C37 B14 11 ?_;replace B3:=((B3.ext x27).ext x28).sto y29;refine RS.sa C37 B3 (fun w31 y31 N31=>?_);replace OT:=OT.stQ y31 (fun _ h=>(OT.own.lo _ h).1);have zw31:=y31.size;replace B3:=N31;refine RS.asI rfl (nl J30 (wp_ret ?_));refine retAI V37 C37 B3 11 ?_;have e1:S.signE x o=0:=by unfold S.signE;rw[if_pos hz];exact hk
 have e2:=S.signS_eq e1;rw[e1,e2];replace hE:=((Ext.tr (Ext.tr hE x27) x28).trans y29.belo).trans y31.belo;replace DW:=(((DW.ext x27).ext x28).sto y29).sto y31;exact⟨_,rfl,hE,_,_,rfl,hcW,DW.weaken (fun k hk h=>by omega)⟩
end W
namespace G
open Go.RowKit
theorem fill_ints(k:IntKind):∀(ps:List (Nat×Int)) (zs:List Int),(∀p∈ps,p.1<zs.length)→Instr.fill (fun i=>some (i*1,1)) (ints k zs).toArray (ps.map fun p=>(p.1,Value.int k p.2))=some (ints k (ps.foldl (fun z p=>z.set p.1 p.2) zs)).toArray
 |[],zs,_=>rfl
 |p::ps,zs,h=>by
  have hp:=h p List.mem_cons_self;have ih:=fill_ints k ps (zs.set p.1 p.2) (fun q hq=>by rw[List.length_set];exact h q (List.mem_cons_of_mem _ hq));have e:(ints k zs).toArray.setIfInBounds p.1 (Value.int k p.2)=(ints k (zs.set p.1 p.2)).toArray:=by rw[←ints_set];simp
  have hl:¬zs.length<p.1+1:=by omega
  simp only[Nat.mul_one]at ih⊢;rw[List.map_cons,List.foldl_cons];simp[Instr.fill,Value.cells,ints_length,e,hl,ih]
section
variable{P:Program}{l:List Value}{w:World}{dd:Option Tmp}{g:Option (Nat×Bool)}{ty:TypeId}{pos:String}{af:Array Edge}
theorem D.buildI{t e n sz by_:Nat}{k:IntKind}{parts:Array (Nat×Operand)}{zs:List Int}{ps:List (Nat×Int)}(hu:P.underlying t=some (.array n e))(ht:TI P t sz by_ (ints k zs))(hs:P.cellsOf e=1)(hv:parts.toList.map (fun p=>(p.1,ev l p.2))=ps.map fun p=>(p.1,Value.int k p.2))(hb:∀p∈ps,p.1<zs.length):
  (execOp (ev l) ⟨dd, .build t parts,ty,pos,af,g⟩).run P w= .ok (.value (.agg (ints k (ps.foldl (fun z p=>z.set p.1 p.2) zs)).toArray)) w:=by
 obtain⟨i,v',i1,i2,i3,i4,i5⟩:=ht;have hz1:(zeroValue t).run P w= .ok v' w:=by simp[zeroValue,typeInfo,i1,i4]
 have hf:=fill_ints k ps zs hb;have e2:(Array.map (fun x=>(x.fst,ev l x.snd)) parts).toList=ps.map fun p=>(p.1,Value.int k p.2):=by rw[Array.toList_map,hv]
 simp only[execOp,Instr.build,Sem.run_bind,hz1,Result.andThen,run_underlying hu,size_run hs (by decide)];rw[i5,e2,hf];rfl
end
section
variable{α:Type}{f:α→List Value}{sz lo n m c:Nat}{S T:Nat→Prop}{w w':World}{e:TypeId}{a:Option Addr}{l:List α}
structure GOwn{α:Type}(f:α→List Value)(sz lo:Nat)(w:World)(e:TypeId)(a:Option Addr)(n c:Nat)(l:List α):Prop where
 own:Own lo w e sz a n c (l.flatMap f)
 szf:∀x,(f x).length=sz
 len:l.length=n
theorem GOwn.st(h:GOwn f sz lo w e a n c l)(x:St m w w')(hn:obk a=some m→False):GOwn f sz lo w' e a n c l:=⟨h.own.st x hn,h.szf,h.len⟩
theorem GOwn.pr(h:GOwn f sz lo w e a n c l)(x:Pr T w w')(hn:∀b,obk a=some b→T b→False):GOwn f sz lo w' e a n c l:=⟨h.own.pr x hn,h.szf,h.len⟩
theorem GOwn.row(h:GOwn f sz lo w e a n c l):GRow f sz (fun b=>lo≤b) w a n l:=⟨h.own.rowS,h.len,h.szf⟩
theorem GOwn.nil(lo:Nat)(w:World)(e:TypeId)(hf:∀x,(f x).length=sz):GOwn f sz lo w e none 0 0 []:=⟨Own.nil lo w e sz,hf,rfl⟩
theorem GOwn.of_blk{b:Nat}{cs:List Value}(h:Blk w b cs e)(hf:∀x,(f x).length=sz)(hc:cs=l.flatMap f)(hn:l.length=n)(hb:lo≤b)(hm:n≤9223372036854775807):GOwn f sz lo w e (some ⟨b,0,none⟩) n n l:=by
 subst hc;exact⟨Own.of_blk h (by rw[flat_len f sz hf,hn,Nat.mul_comm]) hb (by simp only[maxLen];omega),hf,hn⟩
theorem GOwn.some(h:GOwn f sz lo w e a n c l)(hn:0<n):∃g,a=Option.some ⟨g,0,none⟩:=by
 rcases h.own.2 with⟨_,h0⟩|⟨g,cap,cur,hv,_⟩
 ·omega
 ·exact⟨g,by simp at hv;exact hv.1⟩
theorem GOwn.capn(h:GOwn f sz lo w e a n c l):n≤c:=h.own.cap.1
end
section
end
structure Inn where
 (k:IntKind)(sz:Nat)(a:Option Addr)(n c:Nat)(xs:List Int)
def Inn.ok(S:Nat→Prop)(w:World)(i:Inn):Prop:=WRow i.k i.sz S w i.a i.n i.xs∧i.n≤i.c
section
variable{S T:Nat→Prop}{w w':World}{m:Nat}{i:Inn}
theorem Inn.ok.ext(h:i.ok S w)(x:Ext w w'):i.ok S w':=⟨h.1.ext x,h.2⟩
theorem Inn.ok.st(h:i.ok S w)(x:St m w w')(hn:S m→False):i.ok S w':=⟨h.1.st x hn,h.2⟩
theorem Inn.ok.pr(h:i.ok S w)(x:Pr T w w')(hn:∀b,S b→T b→False):i.ok S w':=⟨h.1.pr x hn,h.2⟩
def Inns{α:Type}(g:α→List Inn)(S:Nat→Prop)(w:World)(l:List α):Prop:=∀x∈l,∀i∈g x,i.ok S w
variable{α:Type}{g:α→List Inn}{l l':List α}
theorem Inns.ext(h:Inns g S w l)(x:Ext w w'):Inns g S w' l:=fun y hy i hi=>(h y hy i hi).ext x
theorem Inns.st(h:Inns g S w l)(x:St m w w')(hn:S m→False):Inns g S w' l:=fun y hy i hi=>(h y hy i hi).st x hn
theorem Inns.pr(h:Inns g S w l)(x:Pr T w w')(hn:∀b,S b→T b→False):Inns g S w' l:=fun y hy i hi=>(h y hy i hi).pr x hn
theorem Inns.nil:Inns g S w []:=fun _ hy=>by cases hy
end
end G
namespace G
open Go.RowKit
structure Ent where
 ok:(Nat→Prop)→World→Prop
 step:∀ {S:Nat→Prop} {w w':World},ok S w→(∀b,S b→b<w.heap.size→w'.heap[b]? =w.heap[b]?)→ok S w'
 mono:∀ {S T:Nat→Prop} {w:World},ok S w→(∀b,b<w.heap.size→S b→T b)→ok T w
def Sep:List Ent→(Nat→Prop)→World→Prop
 |[],_,_=>True
 |e::L,U,w=>∃S T:Nat→Prop,(∀b,S b→U b)∧(∀b,T b→U b)∧(∀b,S b→T b→False)∧e.ok S w∧Sep L T w
theorem Sep.step:∀ {L:List Ent} {U:Nat→Prop} {w w':World},Sep L U w→(∀b,U b→b<w.heap.size→w'.heap[b]? =w.heap[b]?)→Sep L U w'
 |[],_,_,_,_,_=>trivial
 |e::L,U,w,w',⟨S,T,h1,h2,h3,h4,h5⟩,k=>⟨S,T,h1,h2,h3,e.step h4 fun b hb=>k b (h1 b hb),h5.step fun b hb=>k b (h2 b hb)⟩
theorem Sep.mono:∀ {L:List Ent} {U V:Nat→Prop} {w:World},Sep L U w→(∀b,b<w.heap.size→U b→V b)→Sep L V w
 |[],_,_,_,_,_=>trivial
 |e::L,U,V,w,⟨S,T,h1,h2,h3,h4,h5⟩,k=>
  ⟨fun b => S b ∧ b < w.heap.size, fun b => T b ∧ b < w.heap.size, fun b hb => k b hb.2 (h1 b hb.1), fun b hb => k b hb.2 (h2 b hb.1), fun b hb hc => h3 b hb.1 hc.1,
   e.mono h4 fun b hb hs => ⟨hs, hb⟩, h5.mono fun b hb ht => ⟨ht, hb⟩⟩
theorem Sep.sub:∀ {E L:List Ent} {U:Nat→Prop} {w:World},E.Sublist L→Sep L U w→Sep E U w
 |_,_,_,_, .slnil,h=>h
 |_,_,_,_, .cons _ s,⟨_,_,_,h2,_,_,h5⟩=>(h5.sub s).mono fun b _ hb=>h2 b hb
 |_,_,_,_, .cons_cons _ s,⟨S,T,h1,h2,h3,h4,h5⟩=>⟨S,T,h1,h2,h3,h4,h5.sub s⟩
theorem Sep.app:∀ {E L:List Ent} {S T U:Nat→Prop} {w:World},Sep E S w→Sep L T w→(∀b,S b→U b)→(∀b,T b→U b)→(∀b,S b→T b→False)→Sep (E++L) U w
 |[],_,_,_,_,_,_,hL,_,h2,_=>hL.mono fun b _ hb=>h2 b hb
 |e::E,L,S,T,U,w,⟨S1,T1,g1,g2,g3,g4,g5⟩,hL,h1,h2,h3=>
  ⟨S1, fun b => T1 b ∨ T b, fun b hb => h1 b (g1 b hb), fun b hb => hb.elim (fun k => h1 b (g2 b k)) (h2 b), fun b hb hc => hc.elim (g3 b hb) (h3 b (g1 b hb)), g4,
   g5.app hL (fun _ hb => .inl hb) (fun _ hb => .inr hb) fun b hb hc => h3 b (g2 b hb) hc⟩
inductive Rpl:List Ent→Ent→Ent→List Ent→Prop
 |here {e e':Ent} {L:List Ent}:Rpl (e::L) e e' (e'::L)
 |there {x e e':Ent} {L L':List Ent}:Rpl L e e' L'→Rpl (x::L) e e' (x::L')
theorem Rpl.foc{L L':List Ent}{e e':Ent}(h:Rpl L e e' L'):∀ {U:Nat→Prop} {w:World},Sep L U w→∃S T:Nat→Prop,(∀b,S b→U b)∧(∀b,T b→U b)∧(∀b,S b→T b→False)∧e.ok S w∧
  ∀ {U' S':Nat→Prop} {w':World},(∀b,S' b→U' b)→(∀b,T b→U' b)→(∀b,S' b→T b→False)→(∀b,T b→b<w.heap.size→w'.heap[b]? =w.heap[b]?)→e'.ok S' w'→Sep L' U' w':=by
 induction h with
 |here=>
  rintro U w ⟨S,T,h1,h2,h3,h4,h5⟩;exact⟨S,T,h1,h2,h3,h4,fun {U' S' w'} k1 k2 k3 k4 k5=>⟨S',T,k1,k2,k3,k5,h5.step k4⟩⟩
 | @there x e e' L L' _ ih=>
  rintro U w ⟨Sx,Tx,h1,h2,h3,h4,h5⟩;obtain⟨S,T,g1,g2,g3,g4,g5⟩:=ih h5;refine⟨S,fun b=>Sx b∨T b,fun b hb=>h2 b (g1 b hb),fun b hb=>hb.elim (h1 b) (fun k=>h2 b (g2 b k)),fun b hb hc=>hc.elim (fun k=>h3 b k (g1 b hb)) (g3 b hb),g4,fun {U' S' w'} k1 k2 k3 k4 k5=>?_⟩
  refine ⟨Sx, fun b => S' b ∨ T b, fun b hb => k2 b (.inl hb), fun b hb => hb.elim (k1 b) (fun k => k2 b (.inr k)), fun b hb hc => hc.elim (fun k => k3 b k (.inl hb)) (fun k => h3 b hb (g2 b k)),
   x.step h4 (fun b hb => k4 b (.inl hb)), g5 (fun _ hb => .inl hb) (fun _ hb => .inr hb) (fun b hb hc => k3 b hb (.inr hc)) (fun b hb => k4 b (.inr hb)) k5⟩
def no:Nat→Prop:=fun _=>False
structure Mem(S0:Nat→Prop)(w0:World)(L:List Ent)(w:World):Prop where
 pr:Pr S0 w0 w
 sep:Sep L (fun b=>S0 b∨w0.heap.size≤b) w
section
variable{S0:Nat→Prop}{w0 w w':World}{L L' E:List Ent}{e e':Ent}
theorem Mem.first(w:World):Mem S0 w [] w:=⟨Pr.refl _ _,trivial⟩
theorem Mem.ext(h:Mem no w0 L w):Ext w0 w:=h.pr.below (fun _ hs=>hs.elim) (Nat.le_refl _)
theorem Mem.le(h:Mem S0 w0 L w):w0.heap.size≤w.heap.size:=h.pr.size
theorem Mem.foc(h:Mem S0 w0 L w)(r:Rpl L e e' L'):∃S:Nat→Prop,(∀b,S b→(S0 b∨w0.heap.size≤b)∧b<w.heap.size)∧e.ok S w∧
  ∀w' S',Pr S w w'→e'.ok S' w'→(∀b,S' b→S b∨w.heap.size≤b)→Mem S0 w0 L' w':=by
 obtain⟨S,T,h1,h2,h3,h4,h5⟩:=r.foc (h.sep.mono (V:=fun b=>(S0 b∨w0.heap.size≤b)∧b<w.heap.size) fun b hb hu=>⟨hu,hb⟩);have hl:=h.le;refine⟨S,h1,h4,fun w' S' hp k1 k2=>⟨h.pr.prn hp fun b hb=>(h1 b hb).1,?_⟩⟩;refine h5 (fun b hb=>?_) (fun b hb=>(h2 b hb).1) (fun b hb hc=>?_) (fun b hb hl=>hp.block b hl fun hs=>h3 b hs hb) k1
 ·rcases k2 b hb with k|k
  ·exact(h1 b k).1
  ·exact .inr (by omega)
 ·rcases k2 b hb with k|k
  ·exact h3 b k hc
  ·have:=(h2 b hc).2;omega
theorem Mem.get(h:Mem S0 w0 L w)(r:Rpl L e e L):∃S:Nat→Prop,(∀b,S b→(S0 b∨w0.heap.size≤b)∧b<w.heap.size)∧e.ok S w:=by
 obtain⟨S,h1,h2,_⟩:=h.foc r;exact⟨S,h1,h2⟩
theorem Mem.grow(h:Mem S0 w0 L w)(x:Ext w w'):Mem S0 w0 L w':=⟨h.pr.ext x,h.sep.step fun b _ hb=>x.block b hb⟩
theorem Mem.more(h:Mem S0 w0 L w)(x:Ext w w')(hE:Sep E (fun b=>w.heap.size≤b) w'):Mem S0 w0 (E++L) w':=by
 have hl:=h.le;refine⟨h.pr.ext x,hE.app ((h.sep.mono (V:=fun b=>(S0 b∨w0.heap.size≤b)∧b<w.heap.size) fun b hb hu=>⟨hu,hb⟩).step fun b hb hc=>x.block b hc) (fun b hb=> .inr (by omega)) (fun b hb=>hb.1) fun b hb hc=>?_⟩;have:=hc.2;omega
theorem Mem.new(h:Mem S0 w0 L w)(x:Ext w w')(he:e.ok (fun b=>w.heap.size≤b) w'):Mem S0 w0 (e::L) w':=
 h.more (E:=[e]) x ⟨_,no,fun _ hb=>hb,fun _ hb=>hb.elim,fun _ _ hb=>hb.elim,he,trivial⟩
theorem Mem.sub(h:Mem S0 w0 L w)(s:E.Sublist L):Mem S0 w0 E w:=⟨h.pr,h.sep.sub s⟩
end
inductive Tr where
 |fin (pl:List (Nat×Kd))
 |br (pl:List (Nat×Kd)) (i:Nat) (p:Tr) (j:Nat) (q:Tr)
def Tr.size:Tr→Nat
 | .fin pl=>pl.length
 | .br pl _ p _ _=>p.size+1+pl.length
section
variable{P:Program}{R:World→World→Prop}
def noG:List (Nat×Kd)→Bool:=fun pl=>pl.all fun x=>match x.2 with
 | .g| .c=>false
 |_=>true
def trB(ops:Array Oper):Tr→Array Bool→Bool
 | .fin pl,li=>noG pl&&planB ops [] (endB ops) pl li
 | .br pl i p j q,li=>(noG pl&&Nat.beq q.size p.size)&&planB ops [] (fun li=>(Region.ready .any ops li==[i,j])&&(trB ops p (li.setIfInBounds i true)&&trB ops q (li.setIfInBounds j true))) pl li
def RT(P:Program)(l0:List Oper)(R:World→World→Prop)(K:List Value→World→Prop):Tr→List Value→World→Prop
 | .fin pl=>RX P l0.toArray R K (pick l0 pl)
 | .br pl i p j q=>RX P l0.toArray R (fun l w=>RX P l0.toArray R (RT P l0 R K p) [(nth l0 i, .e)] l w∧RX P l0.toArray R (RT P l0 R K q) [(nth l0 j, .e)] l w) (pick l0 pl)
theorem noG_g{pl:List (Nat×Kd)}(h:noG pl=true):(∀i,(i,Kd.g)∈pl→i∈([]:List Nat))∧∀i,(i,Kd.c)∈pl→i∈([]:List Nat):=by
 unfold noG at h;rw[List.all_eq_true]at h;exact⟨fun i hi=>(by have:=h _ hi;simp at this),fun i hi=>(by have:=h _ hi;simp at this)⟩
theorem rt_tree{l0:List Oper}{K:List Value→World→Prop}(hrr:∀w,R w w)(ht:∀ {a b c},R a b→R b c→R a c)(hs:Region.noSelect l0.toArray=true):
  ∀(t:Tr) (listed:Array Bool) (l:List Value) (w:World),Closed l0.toArray listed→trB l0.toArray t listed=true→RT P l0 R K t l w→wpX P l0.toArray R [] (fun a w=>∃l,a=fr l∧K l w) t.size listed (fr l) w
 | .fin pl,listed,l,w,hcl,hB,h=>by
  simp only[trB,Bool.and_eq_true]at hB;have:=rx_list (R:=R) (bg:=[]) (fl:=[]) (P:=P) (K:=K) (n:=0) (en:=endB l0.toArray) (Qx:=fun a w=>∃l,a=fr l∧K l w) (fun listed l w _ he hk=>⟨by simpa [endB]using he,l,rfl,hk⟩) hrr ht hs (fun j hj=>by cases hj) pl listed l w hcl (noG_g hB.1).1 (noG_g hB.1).2 hB.2 h;rwa[Nat.zero_add]at this
 | .br pl i p j q,listed,l,w,hcl,hB,h=>by
  simp only[trB,Bool.and_eq_true]at hB;obtain⟨⟨hn,hz⟩,hB⟩:=hB;have hz:=Nat.eq_of_beq_eq_true hz;refine rx_list (R:=R) (bg:=[]) (fl:=[]) (P:=P) (n:=p.size+1) ?_ hrr ht hs (fun j hj=>by cases hj) pl listed l w hcl (noG_g hn).1 (noG_g hn).2 hB h;rintro listed l w hcl he ⟨h1,h2⟩;simp only[Bool.and_eq_true,beq_iff_eq]at he;obtain⟨hr,hp,hq⟩:=he;refine⟨fun h0=>by rw[h0]at hr;simp at hr,fun k hk=>?_⟩;have key:∀(k:Nat) (t:Tr),t.size=p.size→k∈Region.ready .any l0.toArray listed→trB l0.toArray t (listed.setIfInBounds k true)=true→(∀l w,RT P l0 R K t l w→wpX P l0.toArray R [] (fun a w=>∃l,a=fr l∧K l w) t.size (listed.setIfInBounds k true) (fr l) w)→RX P l0.toArray R (RT P l0 R K t) [(nth l0 k, .e)] l w→
    xOp P l0.toArray k (fun a' w'=>(k∉([]:List Nat)→R w w')∧wpX P l0.toArray R [] (fun a w=>∃l,a=fr l∧K l w) p.size (listed.setIfInBounds k true) a' w') (fr l) w:=by
   intro k t hsz hk hB ih h;have hlt:k<l0.length:=by
    obtain⟨_,o,ho,_⟩:=mem_ready.1 hk;simpa using(Array.getElem?_eq_some_iff.1 ho).1
   have hi:l0.toArray[k]? =some (nth l0 k):=by simpa using nth_get l0 k hlt
   unfold xOp;simp only[hi];simp only[RX]at h;split
   ·rename_i hw;rw[if_pos (by exact hw)]at h;unfold Oper.wp at*;refine upon_mono ?_ (fun _ _ _ h=>h) h;rintro a w' ⟨l',rfl,hR,h⟩;exact⟨fun _=>hR,hsz▸ih l' w' h⟩
   ·rename_i hw;rw[if_neg (by exact hw)]at h;rw[put_fr];exact⟨fun _=>hrr w,hsz▸ih _ w h⟩
  rw[hr]at hk;rcases List.mem_cons.1 hk with e|hk
  ·subst e;have hm:k∈Region.ready .any l0.toArray listed:=by rw[hr];simp
   exact key k p rfl hm hp (fun l w h=>rt_tree hrr ht hs p _ l w (hcl.set hm) hp h) h1
  ·obtain rfl:=List.mem_singleton.1 hk;have hm:k∈Region.ready .any l0.toArray listed:=by rw[hr];simp
   exact key k q hz hm hq (fun l w h=>rt_tree hrr ht hs q _ l w (hcl.set hm) hq h) h2
theorem regionT{id:Nat}{l0:List Oper}{Q:Exit→Act→World→Prop}{l:List Value}{w:World}(R:World→World→Prop)(t:Tr)(hm:P.follows .mixedOrders=true)(hrr:∀w,R w w)(ht:∀ {a b c},R a b→R b c→R a c)
  (hB:(Region.noSelect l0.toArray&&(Nat.beq t.size l0.length&&trB l0.toArray t (Array.replicate l0.length false)))=true)(h:∀w',Ext w w'→RT P l0 R (fun l w=>Q .normal (fr l) w) t l w'):(Code.region id l0.toArray true).wp P Q (fr l) w:=by
 simp only[Bool.and_eq_true]at hB;obtain⟨hs,hl,hB⟩:=hB;have hl:=Nat.eq_of_beq_eq_true hl;refine wp_region_any hm ?_;have:=rt_tree (P:=P) (K:=fun l w=>Q .normal (fr l) w) hrr ht hs t (Array.replicate l0.length false) l {w with drawn:=w.drawn+1} (by intro k ok _ h;exfalso;simp[Array.getElem?_replicate]at h;split at h<;>simp at h) hB (h _ ((Below.refl _ _).drew));rw[hl]at this;have h2:=wpAny_of_X (Q':=Q) (R:=R) (fun a w h=>by obtain⟨l,rfl,h⟩:=h;exact h) l0.length (Array.replicate l0.length false) (fr l) _ this;simpa using h2
end
def J(S0:Nat→Prop)(w0:World)(L:List Ent)(X:World→Prop):Prop:=∀w,Mem S0 w0 L w→X w
def KN(Q:Exit→Act→World→Prop)(l:List Value)(w:World):Prop:=Q .normal (fr l) w
inductive Md where
 |s|x|r (Lq:List Ent)
@[reducible] def Lv(m:Md)(L:List Ent):List Ent:=match m with
 | .r Lq=>Lq
 | .s=>L
 | .x=>L
def MR(S0:Nat→Prop)(w0:World)(Lq:List Ent)(w w':World):Prop:=Mem S0 w0 Lq w→Mem S0 w0 Lq w'
def RY(S0:Nat→Prop)(w0:World)(m:Md)(P:Program)(ops:Array Oper)(K:List Value→World→Prop)(pl:List (Oper×Kd))(l:List Value)(w:World):Prop:=
 match m with
 | .x=>RX P ops Ext K pl l w
 | .s=>RS P ops K (pl.map Prod.fst) l w
 | .r Lq=>Mem S0 w0 Lq w→RX P ops (MR S0 w0 Lq) K pl l w
class Und(P:Program)(t:TypeId)(ed:outParam TypeDesc):Prop where h:P.underlying t=some ed
class Siz(P:Program)(t:TypeId)(n:outParam Nat):Prop where h:P.cellsOf t=n
class Inf(P:Program)(t:TypeId)(sz by_:outParam Nat)(z:outParam (List Value)):Prop where h:TI P t sz by_ z
class SInf(P:Program)(t:TypeId)(l:outParam (List (Nat×Nat))):Prop where h:SI P t l
class Fld(P:Program)(t:TypeId)(i:Nat)(off:outParam Nat):Prop where h:∃fs f sz,P.underlying t=some (.struct fs)∧fs[i]? =some f∧P.cellsOf f.type=sz∧sz≠0∧f.offset=off
class Sca(P:Program)(t:TypeId):Prop where h:∃ed,P.underlying t=some ed∧isAggD ed=false
class Agg(P:Program)(t:TypeId)(sz:outParam Nat):Prop where h:∃ed,P.underlying t=some ed∧isAggD ed=true∧P.cellsOf t=sz
class Ents(P:Program)(f:FuncId):Prop where h:Enters P f
section
variable{S0:Nat→Prop}{w0:World}{L L':List Ent}{P:Program}{Q:Exit→Act→World→Prop}{l:List Value}{x y c:Code}{o:Operand}{X Y:World→Prop}{id id':Nat}{N:Act→World→Prop}{e e':Ent}
theorem J.map(f:∀w,X w→Y w)(h:J S0 w0 L X):J S0 w0 L Y:=fun w M=>f w (h w M)
theorem J.drop{E:List Ent}(s:E.Sublist L)(h:J S0 w0 E X):J S0 w0 L X:=fun w M=>h w (M.sub s)
/-! ### control -/
theorem J.sq(h:J S0 w0 L (x.wp P (Exit.then (y.wp P Q) Q) (fr l))):J S0 w0 L ((Code.seq x y).wp P Q (fr l)):=fun w M=>wp_seq (h w M)
theorem J.skip(h:J S0 w0 L (Q .normal (fr l))):J S0 w0 L (Code.skip.wp P Q (fr l)):=fun w M=>wp_skip (h w M)
theorem J.exit(h:J S0 w0 L (Q (.exit id) (fr l))):J S0 w0 L ((Code.exit id).wp P Q (fr l)):=fun w M=>wp_exit (h w M)
theorem J.block(h:J S0 w0 L (c.wp P (Exit.inBlock id Q) (fr l))):J S0 w0 L ((Code.block id c).wp P Q (fr l)):=fun w M=>wp_block (h w M)
theorem J.retc(h:J S0 w0 L (Q .ret (fr l))):J S0 w0 L (Code.ret.wp P Q (fr l)):=fun w M=>wp_ret (h w M)
theorem J.thn(h:J S0 w0 L (N (fr l))):J S0 w0 L (Exit.then N Q .normal (fr l)):=h
theorem J.thr(h:J S0 w0 L (Q .ret (fr l))):J S0 w0 L (Exit.then N Q .ret (fr l)):=h
theorem J.ibn(h:J S0 w0 L (Q .normal (fr l))):J S0 w0 L (Exit.inBlock id Q .normal (fr l)):=h
theorem J.ibr(h:J S0 w0 L (Q .ret (fr l))):J S0 w0 L (Exit.inBlock id Q .ret (fr l)):=h
theorem J.ift(hc:ev l o= .bool true)(h:J S0 w0 L (x.wp P Q (fr l))):J S0 w0 L ((Code.cond o x y).wp P Q (fr l)):=fun w M=>C.ift hc (h w M)
theorem J.iff(hc:ev l o= .bool false)(h:J S0 w0 L (y.wp P Q (fr l))):J S0 w0 L ((Code.cond o x y).wp P Q (fr l)):=fun w M=>C.iff hc (h w M)
theorem J.ifb{b:Bool}(hc:ev l o= .bool b)(ht:b=true→J S0 w0 L (x.wp P Q (fr l)))(hf:b=false→J S0 w0 L (y.wp P Q (fr l))):J S0 w0 L ((Code.cond o x y).wp P Q (fr l)):=
 fun w M=>C.ifb hc (fun h=>ht h w M) (fun h=>hf h w M)
theorem J.ifd{p:Prop}[Decidable p](hc:ev l o= .bool (decide p))(ht:p→J S0 w0 L (x.wp P Q (fr l)))(hf:¬p→J S0 w0 L (y.wp P Q (fr l))):J S0 w0 L ((Code.cond o x y).wp P Q (fr l)):=
 fun w M=>C.ifd hc (fun h=>ht h w M) (fun h=>hf h w M)
theorem J.ife{a b:Int}(hc:ev l o= .bool (a==b))(ht:a=b→J S0 w0 L (x.wp P Q (fr l)))(hf:a≠b→J S0 w0 L (y.wp P Q (fr l))):J S0 w0 L ((Code.cond o x y).wp P Q (fr l)):=
 fun w M=>C.ife hc (fun h=>ht h w M) (fun h=>hf h w M)
theorem J.ifn{a b:Int}(hc:ev l o= .bool (a != b))(ht:a≠b→J S0 w0 L (x.wp P Q (fr l)))(hf:a=b→J S0 w0 L (y.wp P Q (fr l))):J S0 w0 L ((Code.cond o x y).wp P Q (fr l)):=
 fun w M=>C.ifn hc (fun h=>ht h w M) (fun h=>hf h w M)
theorem J.ifnot{b:Bool}(hc:ev l o= .bool (!b))(ht:b=false→J S0 w0 L (x.wp P Q (fr l)))(hf:b=true→J S0 w0 L (y.wp P Q (fr l))):J S0 w0 L ((Code.cond o x y).wp P Q (fr l)):=
 fun w M=>C.ifnot hc (fun h=>ht h w M) (fun h=>hf h w M)
theorem J.region{l0:List Oper}{pl:List (Oper×Kd)}(h:J S0 w0 L (RY S0 w0 .s P l0.toArray (KN Q) pl l))(hp:l0.map (fun o=>(o,Kd.q))=pl:=by dsimp only[List.map]):J S0 w0 L ((Code.region id l0.toArray false).wp P Q (fr l)):=fun w M=>by
 refine G.region ?_;have:=h w M;subst hp;unfold RY at this;rw[List.map_map]at this;have e:(Prod.fst ∘ fun o:Oper=>(o,Kd.q))=_root_.id:=rfl;rwa[e,List.map_id]at this
theorem J.regionX{l0:List Oper}{pl:List (Oper×Kd)}(plan:List (Nat×Kd))(hm:P.follows .mixedOrders=true)
  (hB:(Region.noSelect l0.toArray&&(Nat.beq plan.length l0.length&&planB l0.toArray (frees plan) (endB l0.toArray) plan (Array.replicate l0.length false)))=true)
  (h:J S0 w0 L (RY S0 w0 .x P l0.toArray (KN Q) pl l))(hp:pick l0 plan=pl:=by dsimp only[pick,nth]):J S0 w0 L ((Code.region id l0.toArray true).wp P Q (fr l)):=
 fun w M=>G.regionX Ext plan hm Ext.refl (fun h k=>h.tr k) hB (fun w' hw=>h w' (M.grow hw)) hp
end
section
variable{S0:Nat→Prop}{w0:World}{L:List Ent}{P:Program}{Q:Exit→Act→World→Prop}{l:List Value}{id:Nat}
theorem J.regionR{l0:List Oper}{pl:List (Oper×Kd)}(Lq:List Ent)(plan:List (Nat×Kd))(hm:P.follows .mixedOrders=true)
  (hB:(Region.noSelect l0.toArray&&(Nat.beq plan.length l0.length&&planB l0.toArray (frees plan) (endB l0.toArray) plan (Array.replicate l0.length false)))=true)(hs:Lq.Sublist L)
  (h:J S0 w0 L (RY S0 w0 (.r Lq) P l0.toArray (KN Q) pl l))(hp:pick l0 plan=pl:=by dsimp only[pick,nth]):J S0 w0 L ((Code.region id l0.toArray true).wp P Q (fr l)):=
 fun w M=>G.regionX (MR S0 w0 Lq) plan hm (fun _ h=>h) (fun h k x=>k (h x)) hB (fun w' hw=>h w' (M.grow hw) ((M.grow hw).sub hs)) hp
theorem J.regionT{l0:List Oper}(Lq:List Ent)(t:Tr)(hm:P.follows .mixedOrders=true)
  (hB:(Region.noSelect l0.toArray&&(Nat.beq t.size l0.length&&trB l0.toArray t (Array.replicate l0.length false)))=true)(hs:Lq.Sublist L)
  (h:J S0 w0 L (fun w=>Mem S0 w0 Lq w→RT P l0 (MR S0 w0 Lq) (KN Q) t l w)):J S0 w0 L ((Code.region id l0.toArray true).wp P Q (fr l)):=
 fun w M=>G.regionT (MR S0 w0 Lq) t hm (fun _ h=>h) (fun h k x=>k (h x)) hB (fun w' hw=>h w' (M.grow hw) ((M.grow hw).sub hs))
theorem J.tfin{l0:List Oper}{Lq:List Ent}{plan:List (Nat×Kd)}{pl:List (Oper×Kd)}{K:List Value→World→Prop}(h:J S0 w0 L (RY S0 w0 (.r Lq) P l0.toArray K pl l))(hp:pick l0 plan=pl:=by dsimp only[pick,nth]):J S0 w0 L (fun w=>Mem S0 w0 Lq w→RT P l0 (MR S0 w0 Lq) K (.fin plan) l w):=by subst hp;exact h
def KT(S0:Nat→Prop)(w0:World)(Lq:List Ent)(P:Program)(l0:List Oper)(K:List Value→World→Prop)(i:Nat)(p:Tr)(j:Nat)(q:Tr)(l:List Value)(w:World):Prop:=
 RX P l0.toArray (MR S0 w0 Lq) (RT P l0 (MR S0 w0 Lq) K p) [(nth l0 i, .e)] l w∧RX P l0.toArray (MR S0 w0 Lq) (RT P l0 (MR S0 w0 Lq) K q) [(nth l0 j, .e)] l w
theorem J.tbr{l0:List Oper}{Lq:List Ent}{plan:List (Nat×Kd)}{i j:Nat}{p q:Tr}{pl:List (Oper×Kd)}{K:List Value→World→Prop}(h:J S0 w0 L (RY S0 w0 (.r Lq) P l0.toArray (KT S0 w0 Lq P l0 K i p j q) pl l))(hp:pick l0 plan=pl:=by dsimp only[pick,nth]):J S0 w0 L (fun w=>Mem S0 w0 Lq w→RT P l0 (MR S0 w0 Lq) K (.br plan i p j q) l w):=by subst hp;exact h
theorem J.kt{l0:List Oper}{Lq:List Ent}{i j:Nat}{p q:Tr}{K:List Value→World→Prop}{oi oj:Oper}
  (h1:J S0 w0 L (RY S0 w0 (.r Lq) P l0.toArray (RT P l0 (MR S0 w0 Lq) K p) [(oi, .e)] l))(h2:J S0 w0 L (RY S0 w0 (.r Lq) P l0.toArray (RT P l0 (MR S0 w0 Lq) K q) [(oj, .e)] l))(hs:Lq.Sublist L:=by repeat(first|exact List.Sublist.refl _|refine List.Sublist.cons_cons _ ?_|refine List.Sublist.cons _ ?_))(hi:nth l0 i=oi:=by dsimp only[nth])(hj:nth l0 j=oj:=by dsimp only[nth]):J S0 w0 L (KT S0 w0 Lq P l0 K i p j q l):=fun w M=>by
 subst hi hj;exact⟨h1 w M (M.sub hs),h2 w M (M.sub hs)⟩
theorem J.kr{l0:List Oper}{Lq:List Ent}{p:Tr}{K:List Value→World→Prop}(h:J S0 w0 L (fun w=>Mem S0 w0 Lq w→RT P l0 (MR S0 w0 Lq) K p l w))(hs:Lq.Sublist L:=by repeat(first|exact List.Sublist.refl _|refine List.Sublist.cons_cons _ ?_|refine List.Sublist.cons _ ?_)):J S0 w0 L (RT P l0 (MR S0 w0 Lq) K p l):=fun w M=>h w M (M.sub hs)
end
/-! ### one operation -/
section
variable{S0:Nat→Prop}{w0:World}{L L':List Ent}{P:Program}{l0:List Oper}{ops:Array Oper}{K:List Value→World→Prop}{rest:List (Oper×Kd)}{l l':List Value}{m:Md}{d:Tmp}{dd:Option Tmp}{op:Op}{ty:TypeId}{pos:String}{af:Array Edge}{kd:Kd}{v:Value}{j:Nat}{t b:Bool}
theorem J.nil(h:J S0 w0 L (K l)):J S0 w0 L (RY S0 w0 m P ops K [] l):=fun w M=>by
 cases m
 ·exact RS.nil (P:=P) (ops:=ops) (h w M)
 ·exact RX.nil (P:=P) (ops:=ops) (R:=Ext) (h w M)
 ·exact fun _=>RX.nil (P:=P) (ops:=ops) (h w M)
theorem J.nilN{Q:Exit→Act→World→Prop}(h:J S0 w0 L (Q .normal (fr l))):J S0 w0 L (RY S0 w0 m P ops (KN Q) [] l):=J.nil h
theorem J.norm(h:l=l')(k:J S0 w0 L (RY S0 w0 m P ops K rest l')):J S0 w0 L (RY S0 w0 m P ops K rest l):=h▸k
theorem J.val(hr:∀w,Mem S0 w0 (Lv m L) w→(execOp (ev l) ⟨some d,op,ty,pos,af,none⟩).run P w= .ok (.value v) w)(k:J S0 w0 L (RY S0 w0 m P ops K rest l'))(hl:l.set d v=l':=by dsimp only[List.set]):
  J S0 w0 L (RY S0 w0 m P ops K ((⟨some d,op,ty,pos,af,none⟩, .q)::rest) l):=fun w M=>by
 cases m
 ·exact RS.o (hr w M) (k w M) hl
 ·exact RX.o (fun w' hw=>hr w' (M.grow hw)) (k w M) hl
 ·exact fun Mq=>RX.o (fun w' hw=>hr w' (hw Mq)) (k w M Mq) hl
def pureK:Kd→Bool
 | .q| .c=>true
 |_=>false
theorem J.pur(hk:pureK kd=true)(hr:∀w,(execOp (ev l) ⟨some d,op,ty,pos,af,none⟩).run P w= .ok (.value v) w)(k:J S0 w0 L (RY S0 w0 m P ops K rest l'))(hl:l.set d v=l':=by dsimp only[List.set]):
  J S0 w0 L (RY S0 w0 m P ops K ((⟨some d,op,ty,pos,af,none⟩,kd)::rest) l):=fun w M=>by
 cases m
 ·exact RS.o (hr w) (k w M) hl
 ·cases kd<;>first|cases hk|skip
  ·exact RX.o (fun w' hw=>hr w') (k w M) hl
  ·exact RX.co hr (k w M) hl
 ·cases kd<;>first|cases hk|skip
  ·exact fun Mq=>RX.o (fun w' hw=>hr w') (k w M Mq) hl
  ·exact fun Mq=>RX.co hr (k w M Mq) hl
def okE(m:Md)(kd:Kd):Bool:=match m,kd with
 | .s,_=>true
 |_, .e=>true
 |_, .g=>true
 |_,_=>false
def okG(m:Md)(kd:Kd)(L':List Ent):Prop:=match m,kd with
 | .s,_=>True
 | .x, .g=>True
 | .r Lq, .e=>Lq.Sublist L'
 | .r Lq, .g=>Lq.Sublist L'
 |_,_=>False
theorem rs_one{o:Oper}{pl:List (Oper×Kd)}{l:List Value}{w:World}(h:RS P ops (fun l' w'=>RS P ops K (pl.map Prod.fst) l' w') [o] l w):RS P ops K (o::pl.map Prod.fst) l w:=by
 unfold RS at h⊢;exact h
theorem J.eff(hk:okE m kd=true)(h:∀w,Mem S0 w0 L w→∀K':List Value→World→Prop,(∀l' w',Ext w w'→RY S0 w0 m P ops K rest l' w'→K' l' w')→RS P ops K' [⟨dd,op,ty,pos,af,none⟩] l w):
  J S0 w0 L (RY S0 w0 m P ops K ((⟨dd,op,ty,pos,af,none⟩,kd)::rest) l):=fun w M=>by
 cases m
 ·exact rs_one (h w M (fun l' w'=>RS P ops K (rest.map Prod.fst) l' w') (fun l' w' _ h=>h))
 ·cases kd<;>first|cases hk|skip
  ·exact RX.eff (h w M _ fun l' w' x h=>⟨x,h⟩)
  ·exact RX.big (h w M _ fun l' w' _ h=>h)
 ·cases kd<;>first|cases hk|skip
  ·exact fun Mq=>RX.eff (h w M _ fun l' w' x h=>⟨fun _=>Mq.grow x,h (Mq.grow x)⟩)
  ·exact fun Mq=>RX.big (h w M _ fun l' w' x h=>h (Mq.grow x))
theorem J.big{L':List Ent}(hk:okG m kd L')(h:∀w,Mem S0 w0 L w→∀K':List Value→World→Prop,(∀l' w',Mem S0 w0 L' w'→RY S0 w0 m P ops K rest l' w'→K' l' w')→RS P ops K' [⟨dd,op,ty,pos,af,none⟩] l w):
  J S0 w0 L (RY S0 w0 m P ops K ((⟨dd,op,ty,pos,af,none⟩,kd)::rest) l):=fun w M=>by
 cases m
 ·exact rs_one (h w M (fun l' w'=>RS P ops K (rest.map Prod.fst) l' w') (fun l' w' _ h=>h))
 ·cases kd
  ·exact False.elim hk
  ·exact False.elim hk
  ·exact RX.big (h w M _ fun l' w' _ h=>h)
  ·exact False.elim hk
 ·cases kd
  ·exact False.elim hk
  ·exact fun Mq=>RX.eff (h w M _ fun l' w' M' h=>⟨fun _=>M'.sub hk,h (M'.sub hk)⟩)
  ·exact fun Mq=>RX.big (h w M _ fun l' w' M' h=>h (M'.sub hk))
  ·exact False.elim hk
theorem J.bigs{ι:Type}(i0:ι){Ls:ι→List Ent}(hk:∀i,okG m kd (Ls i))(h:∀w,Mem S0 w0 L w→∀K':List Value→World→Prop,(∀l' w' i,Mem S0 w0 (Ls i) w'→RY S0 w0 m P ops K rest l' w'→K' l' w')→RS P ops K' [⟨dd,op,ty,pos,af,none⟩] l w):
  J S0 w0 L (RY S0 w0 m P ops K ((⟨dd,op,ty,pos,af,none⟩,kd)::rest) l):=fun w M=>by
 cases m
 ·exact rs_one (h w M (fun l' w'=>RS P ops K (rest.map Prod.fst) l' w') (fun l' w' _ _ h=>h))
 ·cases kd
  ·exact False.elim (hk i0)
  ·exact False.elim (hk i0)
  ·exact RX.big (h w M _ fun l' w' _ _ h=>h)
  ·exact False.elim (hk i0)
 ·cases kd
  ·exact False.elim (hk i0)
  ·exact fun Mq=>RX.eff (h w M _ fun l' w' i M' h=>⟨fun _=>M'.sub (hk i),h (M'.sub (hk i))⟩)
  ·exact fun Mq=>RX.big (h w M _ fun l' w' i M' h=>h (M'.sub (hk i)))
  ·exact False.elim (hk i0)
/-! guards -/
theorem J.want{s:Nat}(hj:(l0[j]?).bind (·.dst)=some s)(hl:l.getD s undef= .bool t)(hs:Nat.ble (s+1) l.length=true)(k:J S0 w0 L (RY S0 w0 m P l0.toArray K ((⟨dd,op,ty,pos,af,none⟩,kd)::rest) l)):
  J S0 w0 L (RY S0 w0 m P l0.toArray K ((⟨dd,op,ty,pos,af,some (j,t)⟩,kd)::rest) l):=fun w M=>by
 cases m
 ·exact RS.wantB s hj hl hs (k w M)
 ·exact RX.wantB s hj hl hs (k w M)
 ·exact fun Mq=>RX.wantB s hj hl hs (k w M Mq)
theorem J.skipg{s:Nat}(hj:(l0[j]?).bind (·.dst)=some s)(hl:l.getD s undef= .bool b)(hs:Nat.ble (s+1) l.length=true)(hb:(b==t)=false)(k:J S0 w0 L (RY S0 w0 m P l0.toArray K rest l'))(hp:putL dd undef l=l':=by dsimp only[putL,List.set]):
  J S0 w0 L (RY S0 w0 m P l0.toArray K ((⟨dd,op,ty,pos,af,some (j,t)⟩,kd)::rest) l):=fun w M=>by
 subst hp;cases m
 ·exact RS.skipB s hj hl hs hb (k w M)
 ·exact RX.skipB s hj hl hs hb (k w M)
 ·exact fun Mq=>RX.skipB s hj hl hs hb (k w M Mq)
theorem J.skipu{s:Nat}(hj:(l0[j]?).bind (·.dst)=some s)(hl:l.getD s undef=undef)(hs:Nat.ble (s+1) l.length=true)(k:J S0 w0 L (RY S0 w0 m P l0.toArray K rest l'))(hp:putL dd undef l=l':=by dsimp only[putL,List.set]):
  J S0 w0 L (RY S0 w0 m P l0.toArray K ((⟨dd,op,ty,pos,af,some (j,t)⟩,kd)::rest) l):=fun w M=>by
 subst hp;cases m
 ·exact RS.skipU s hj hl hs (k w M)
 ·exact RX.skipU s hj hl hs (k w M)
 ·exact fun Mq=>RX.skipU s hj hl hs (k w M Mq)
theorem J.split{s:Nat}{b:Bool}(hs:Nat.ble (s+1) l.length=true)(h:l.getD s undef= .bool b)(ht:b=true→J S0 w0 L (RY S0 w0 m P ops K rest (l.set s (.bool true))))(hf:b=false→J S0 w0 L (RY S0 w0 m P ops K rest (l.set s (.bool false)))):
  J S0 w0 L (RY S0 w0 m P ops K rest l):=by
 cases hb:b
 ·have:=hf hb;rwa[set_self (by rw[h,hb]) (Nat.le_of_ble_eq_true hs)]at this
 ·have:=ht hb;rwa[set_self (by rw[h,hb]) (Nat.le_of_ble_eq_true hs)]at this
theorem J.sp{s:Nat}{b:Bool}{lt lf:List Value}(hj:(l0[j]?).bind (·.dst)=some s)(h:l.getD s undef= .bool b)(hs:Nat.ble (s+1) l.length=true)
  (kt:b=true→J S0 w0 L (RY S0 w0 m P l0.toArray K ((⟨dd,op,ty,pos,af,some (j,t)⟩,kd)::rest) lt))(kf:b=false→J S0 w0 L (RY S0 w0 m P l0.toArray K ((⟨dd,op,ty,pos,af,some (j,t)⟩,kd)::rest) lf))
  (ht:l.set s (.bool true)=lt:=by dsimp only[List.set])(hf:l.set s (.bool false)=lf:=by dsimp only[List.set]):
  J S0 w0 L (RY S0 w0 m P l0.toArray K ((⟨dd,op,ty,pos,af,some (j,t)⟩,kd)::rest) l):=by
 subst ht hf;exact J.split hs h kt kf
theorem J.spd{s:Nat}{p:Prop}[Decidable p]{lt lf:List Value}(hj:(l0[j]?).bind (·.dst)=some s)(h:l.getD s undef= .bool (decide p))(hs:Nat.ble (s+1) l.length=true)(kt:p→J S0 w0 L (RY S0 w0 m P l0.toArray K ((⟨dd,op,ty,pos,af,some (j,t)⟩,kd)::rest) lt))(kf:¬p→J S0 w0 L (RY S0 w0 m P l0.toArray K ((⟨dd,op,ty,pos,af,some (j,t)⟩,kd)::rest) lf))
  (ht:l.set s (.bool true)=lt:=by dsimp only[List.set])(hf:l.set s (.bool false)=lf:=by dsimp only[List.set]):J S0 w0 L (RY S0 w0 m P l0.toArray K ((⟨dd,op,ty,pos,af,some (j,t)⟩,kd)::rest) l):=J.sp hj h hs (fun h=>kt (of_decide_eq_true h)) (fun h=>kf (of_decide_eq_false h)) ht hf
theorem J.spe{s:Nat}{p q:Int}{lt lf:List Value}(hj:(l0[j]?).bind (·.dst)=some s)(h:l.getD s undef= .bool (p==q))(hs:Nat.ble (s+1) l.length=true)(kt:p=q→J S0 w0 L (RY S0 w0 m P l0.toArray K ((⟨dd,op,ty,pos,af,some (j,t)⟩,kd)::rest) lt))(kf:p≠q→J S0 w0 L (RY S0 w0 m P l0.toArray K ((⟨dd,op,ty,pos,af,some (j,t)⟩,kd)::rest) lf))
  (ht:l.set s (.bool true)=lt:=by dsimp only[List.set])(hf:l.set s (.bool false)=lf:=by dsimp only[List.set]):J S0 w0 L (RY S0 w0 m P l0.toArray K ((⟨dd,op,ty,pos,af,some (j,t)⟩,kd)::rest) l):=J.sp hj h hs (fun h=>kt (by simpa using h)) (fun h=>kf (by simpa using h)) ht hf
theorem J.spn{s:Nat}{p q:Int}{lt lf:List Value}(hj:(l0[j]?).bind (·.dst)=some s)(h:l.getD s undef= .bool (p != q))(hs:Nat.ble (s+1) l.length=true)(kt:p≠q→J S0 w0 L (RY S0 w0 m P l0.toArray K ((⟨dd,op,ty,pos,af,some (j,t)⟩,kd)::rest) lt))(kf:p=q→J S0 w0 L (RY S0 w0 m P l0.toArray K ((⟨dd,op,ty,pos,af,some (j,t)⟩,kd)::rest) lf))
  (ht:l.set s (.bool true)=lt:=by dsimp only[List.set])(hf:l.set s (.bool false)=lf:=by dsimp only[List.set]):J S0 w0 L (RY S0 w0 m P l0.toArray K ((⟨dd,op,ty,pos,af,some (j,t)⟩,kd)::rest) l):=J.sp hj h hs (fun h=>kt (by simpa using h)) (fun h=>kf (by simpa using h)) ht hf
variable{x y z:Operand}{xt yt:TypeId}{k:IntKind}{p q r:Int}{b':Bool}
/-! values -/
theorem J.mv(hk:pureK kd=true)(k:J S0 w0 L (RY S0 w0 m P ops K rest l'))(hv:ev l x=v:=by((conv=>lhs;whnf)<;>rfl))(hl:l.set d v=l':=by dsimp only[List.set]):
  J S0 w0 L (RY S0 w0 m P ops K ((⟨some d, .move x,ty,pos,af,none⟩,kd)::rest) l):=J.pur hk (fun w=>by simp only[execOp];rw[hv];rfl) k hl
theorem J.as(hk:pureK kd=true)(k:J S0 w0 L (RY S0 w0 m P ops K rest l'))(hv:ev l x=v:=by((conv=>lhs;whnf)<;>rfl))(hl:l.set d v=l':=by dsimp only[List.set]):
  J S0 w0 L (RY S0 w0 m P ops K ((⟨some d, .assign x,ty,pos,af,none⟩,kd)::rest) l):=J.pur hk (fun w=>by simp only[execOp];rw[hv];rfl) k hl
theorem J.pk(hk:pureK kd=true)(hc:ev l x= .bool b)(k:J S0 w0 L (RY S0 w0 m P ops K rest l'))(hv:(if b then ev l y else ev l z)=v:=by((conv=>lhs;whnf)<;>rfl))(hl:l.set d v=l':=by dsimp only[List.set]):
  J S0 w0 L (RY S0 w0 m P ops K ((⟨some d, .pick x y z,ty,pos,af,none⟩,kd)::rest) l):=J.pur (v:=if b then ev l y else ev l z) hk (fun w=>by simp only[execOp];rw[hc];cases b<;>rfl) k (by rw[hv];exact hl)
theorem J.ex{i:Nat}{vs:Array Value}(hk:pureK kd=true)(hx:ev l x= .tuple vs)(k:J S0 w0 L (RY S0 w0 m P ops K rest l'))(hv:vs[i]? =some v:=by((conv=>lhs;whnf)<;>rfl))(hl:l.set d v=l':=by dsimp only[List.set]):
  J S0 w0 L (RY S0 w0 m P ops K ((⟨some d, .extract x i,ty,pos,af,none⟩,kd)::rest) l):=J.pur hk (fun w=>by simp only[execOp];rw[hx];simp only[Instr.extract,hv];rfl) k hl
theorem J.add(hk:pureK kd=true)(hx:ev l x= .int k p)(hy:ev l y= .int k q)(kk:J S0 w0 L (RY S0 w0 m P ops K rest l'))(hw:k.wrap (p+q)=r:=by first|exact W.i64 (by omega)|exact W.u64 (by omega)|exact W.u32 (by omega)|exact W.u8 (by omega)|exact W.i32 (by omega))(hl:l.set d (.int k r)=l':=by dsimp only[List.set]):J S0 w0 L (RY S0 w0 m P ops K ((⟨some d, .binOp .add xt x y yt,ty,pos,af,none⟩,kd)::rest) l):=J.pur hk (fun _=>D.add hx hy hw) kk hl
theorem J.sub(hk:pureK kd=true)(hx:ev l x= .int k p)(hy:ev l y= .int k q)(kk:J S0 w0 L (RY S0 w0 m P ops K rest l'))(hw:k.wrap (p - q)=r:=by first|exact W.i64 (by omega)|exact W.u64 (by omega)|exact W.u32 (by omega)|exact W.u8 (by omega)|exact W.i32 (by omega))(hl:l.set d (.int k r)=l':=by dsimp only[List.set]):J S0 w0 L (RY S0 w0 m P ops K ((⟨some d, .binOp .sub xt x y yt,ty,pos,af,none⟩,kd)::rest) l):=J.pur hk (fun _=>D.sub hx hy hw) kk hl
theorem J.eq(hk:pureK kd=true)(hx:ev l x= .int k p)(hy:ev l y= .int k q)(kk:J S0 w0 L (RY S0 w0 m P ops K rest l'))(hl:l.set d (.bool (p==q))=l':=by dsimp only[List.set]):J S0 w0 L (RY S0 w0 m P ops K ((⟨some d, .binOp .eql xt x y yt,ty,pos,af,none⟩,kd)::rest) l):=J.pur hk (fun _=>D.eq hx hy) kk hl
theorem J.ne(hk:pureK kd=true)(hx:ev l x= .int k p)(hy:ev l y= .int k q)(kk:J S0 w0 L (RY S0 w0 m P ops K rest l'))(hl:l.set d (.bool (p != q))=l':=by dsimp only[List.set]):J S0 w0 L (RY S0 w0 m P ops K ((⟨some d, .binOp .neq xt x y yt,ty,pos,af,none⟩,kd)::rest) l):=J.pur hk (fun _=>D.ne hx hy) kk hl
theorem J.lt(hk:pureK kd=true)(hx:ev l x= .int k p)(hy:ev l y= .int k q)(kk:J S0 w0 L (RY S0 w0 m P ops K rest l'))(hl:l.set d (.bool (decide (p<q)))=l':=by dsimp only[List.set]):J S0 w0 L (RY S0 w0 m P ops K ((⟨some d, .binOp .lss xt x y yt,ty,pos,af,none⟩,kd)::rest) l):=J.pur hk (fun _=>D.lt hx hy) kk hl
theorem J.gt(hk:pureK kd=true)(hx:ev l x= .int k p)(hy:ev l y= .int k q)(kk:J S0 w0 L (RY S0 w0 m P ops K rest l'))(hl:l.set d (.bool (decide (q<p)))=l':=by dsimp only[List.set]):J S0 w0 L (RY S0 w0 m P ops K ((⟨some d, .binOp .gtr xt x y yt,ty,pos,af,none⟩,kd)::rest) l):=J.pur hk (fun _=>D.gt hx hy) kk hl
theorem J.ge(hk:pureK kd=true)(hx:ev l x= .int k p)(hy:ev l y= .int k q)(kk:J S0 w0 L (RY S0 w0 m P ops K rest l'))(hl:l.set d (.bool (decide (q≤p)))=l':=by dsimp only[List.set]):J S0 w0 L (RY S0 w0 m P ops K ((⟨some d, .binOp .geq xt x y yt,ty,pos,af,none⟩,kd)::rest) l):=J.pur hk (fun _=>D.ge hx hy) kk hl
theorem J.seq{s t:ByteArray}(hk:pureK kd=true)(hx:ev l x= .string s)(hy:ev l y= .string t)(kk:J S0 w0 L (RY S0 w0 m P ops K rest l'))(hl:l.set d (.bool (s.toList==t.toList))=l':=by dsimp only[List.set]):J S0 w0 L (RY S0 w0 m P ops K ((⟨some d, .binOp .eql xt x y yt,ty,pos,af,none⟩,kd)::rest) l):=J.pur hk (fun _=>D.seq hx hy) kk hl
theorem J.sne{s t:ByteArray}(hk:pureK kd=true)(hx:ev l x= .string s)(hy:ev l y= .string t)(kk:J S0 w0 L (RY S0 w0 m P ops K rest l'))(hl:l.set d (.bool (!(s.toList==t.toList)))=l':=by dsimp only[List.set]):J S0 w0 L (RY S0 w0 m P ops K ((⟨some d, .binOp .neq xt x y yt,ty,pos,af,none⟩,kd)::rest) l):=J.pur hk (fun _=>D.sne hx hy) kk hl
theorem J.not{b:Bool}(hk:pureK kd=true)(hx:ev l x= .bool b){b':Bool}(kk:J S0 w0 L (RY S0 w0 m P ops K rest l'))(hv:(!b)=b':=by first|rfl|skip)(hl:l.set d (.bool b')=l':=by dsimp only[List.set]):J S0 w0 L (RY S0 w0 m P ops K ((⟨some d, .unOp .not xt x,ty,pos,af,none⟩,kd)::rest) l):=J.pur hk (fun _=>by subst hv;exact D.not hx) kk hl
theorem J.ln{a:Option Addr}{n c:Nat}{e:TypeId}[U:Und P xt (.slice e)](hk:pureK kd=true)(hx:ev l x= .slice a n c)(kk:J S0 w0 L (RY S0 w0 m P ops K rest l'))(hl:l.set d (.int .i64 n)=l':=by dsimp only[List.set]):J S0 w0 L (RY S0 w0 m P ops K ((⟨some d, .call {callee:= .builtin .len,args:= #[x],argTypes:= #[xt]},ty,pos,af,none⟩,kd)::rest) l):=J.pur hk (fun _=>D.len hx U.h) kk hl
theorem J.cp{a:Option Addr}{n c:Nat}{e:TypeId}[U:Und P xt (.slice e)](hk:pureK kd=true)(hx:ev l x= .slice a n c)(kk:J S0 w0 L (RY S0 w0 m P ops K rest l'))(hl:l.set d (.int .i64 c)=l':=by dsimp only[List.set]):J S0 w0 L (RY S0 w0 m P ops K ((⟨some d, .call {callee:= .builtin .cap,args:= #[x],argTypes:= #[xt]},ty,pos,af,none⟩,kd)::rest) l):=J.pur hk (fun _=>D.cap hx U.h) kk hl
theorem J.cv{s:TypeId}{k':IntKind}{sd:TypeDesc}[U1:Und P s sd][U:Und P xt (.int k')](hk:pureK kd=true)(hx:ev l x= .int k p)(kk:J S0 w0 L (RY S0 w0 m P ops K rest l'))(hw:k'.wrap p=r:=by first|exact W.i64 (by omega)|exact W.u64 (by omega)|exact W.u32 (by omega)|exact W.u8 (by omega)|exact W.i32 (by omega))(hl:l.set d (.int k' r)=l':=by dsimp only[List.set]):J S0 w0 L (RY S0 w0 m P ops K ((⟨some d, .convert s xt x,ty,pos,af,none⟩,kd)::rest) l):=J.pur hk (fun _=>D.conv hx U1.h U.h hw) kk hl
theorem J.bs{parts:Array (Nat×Operand)}{pl:List (Nat×Nat)}{sz by_:Nat}{zs cs:List Value}{ps:List (Nat×Value)}[I:Inf P xt sz by_ zs][I2:SInf P xt pl](hk:pureK kd=true)(hv:parts.toList.map (fun p=>(p.1,ev l p.2))=ps)(kk:J S0 w0 L (RY S0 w0 m P ops K rest l'))(hf:fillL pl zs ps=some cs:=by rfl)(hl:l.set d (.agg cs.toArray)=l':=by dsimp only[List.set]):J S0 w0 L (RY S0 w0 m P ops K ((⟨some d, .build xt parts,ty,pos,af,none⟩,kd)::rest) l):=J.pur hk (fun _=>D.buildS I.h I2.h hv hf) kk hl
theorem J.sl{lo hi:Option Operand}{li hi':Int}{a a':Option Addr}{n c n' c' sz:Nat}{e:TypeId}[U:Und P xt (.slice e)][Z:Siz P e sz](hk:pureK kd=true)(hx:ev l x= .slice a n c)(h1:(lo.map (ev l)).getD (.int .i64 0)= .int .i64 li)(h2:(hi.map (ev l)).getD (.int .i64 n)= .int .i64 hi')(kk:J S0 w0 L (RY S0 w0 m P ops K rest l'))(hz:sz≠0:=by decide)(hb:0≤li∧li≤hi'∧hi'≤c:=by omega)(hn:n≤c:=by omega)(ha:subA a li.toNat sz c=a':=by rfl)(hn':hi'.toNat - li.toNat=n':=by rfl)(hc':c - li.toNat=c':=by rfl)(hl:l.set d (.slice a' n' c')=l':=by dsimp only[List.set]):J S0 w0 L (RY S0 w0 m P ops K ((⟨some d, .slice xt x lo hi none,ty,pos,af,none⟩,kd)::rest) l):=J.pur hk (fun _=>by subst ha hn' hc';exact D.slice hx U.h Z.h hz h1 h2 hb hn) kk hl
theorem J.shr{k2:IntKind}{q':Int}(hk:pureK kd=true)(hx:ev l x= .int k p)(hy:ev l y= .int k2 q)(kk:J S0 w0 L (RY S0 w0 m P ops K rest l'))(hb:0≤q∧q≤k.bits:=by decide)(hq:(2:Int) ^ q.toNat=q':=by dsimp only[Int.reduceToNat,Int.reducePow])(hl:l.set d (.int k (p / q'))=l':=by dsimp only[List.set]):J S0 w0 L (RY S0 w0 m P ops K ((⟨some d, .binOp .shr xt x y yt,ty,pos,af,none⟩,kd)::rest) l):=J.pur hk (fun _=>by rw[←hq];exact D.shr hx hy hb) kk hl
theorem J.neI{e n:Nat}{xs ys:List Int}[U:Und P xt (.array n e)][U2:Und P e (.int k)][Z:Siz P e 1](hk:pureK kd=true)(hx:ev l x= .agg (ints k xs).toArray)(hy:ev l y= .agg (ints k ys).toArray)(kk:J S0 w0 L (RY S0 w0 m P ops K rest l'))(hg:P.eqGuardType P.depth xt=false:=by kernel_rfl)(lx:xs.length=n:=by first|rfl|assumption|exact And.left (by assumption)|exact WRow.elt_len (by assumption) (by omega)|(subst_vars;exact WRow.elt_len (by assumption) (by omega)))(ly:ys.length=n:=by first|rfl|assumption|exact And.left (by assumption)|exact WRow.elt_len (by assumption) (by omega)|(subst_vars;exact WRow.elt_len (by assumption) (by omega)))(hn:0<n:=by decide)(hl:l.set d (.bool (decide (xs≠ys)))=l':=by dsimp only[List.set]):J S0 w0 L (RY S0 w0 m P ops K ((⟨some d, .binOp .neq xt x y yt,ty,pos,af,none⟩,kd)::rest) l):=J.pur hk (fun _=>D.neI hx hy U.h U2.h Z.h hg lx ly hn) kk hl
theorem J.fl{b o i off ad:Nat}[F:Fld P xt i off](hk:pureK kd=true)(hx:ev l x= .pointer (some ⟨b,o,none⟩))(k:J S0 w0 L (RY S0 w0 m P ops K rest l'))(ha:o+off=ad:=by first|dsimp only[Nat.reduceAdd]|rfl)(hl:l.set d (.pointer (some ⟨b,ad,none⟩))=l':=by dsimp only[List.set]):
  J S0 w0 L (RY S0 w0 m P ops K ((⟨some d, .fieldAddr xt x i,ty,pos,af,none⟩,kd)::rest) l):=by
 obtain⟨fs,f,sz,h1,h2,h3,h4,rfl⟩:=F.h;subst ha;exact J.pur hk (fun w=>D.fieldAddr hx h1 h2 h3 h4) k hl
theorem J.eqb{p q:Bool}[U:Und P xt .bool](hk:pureK kd=true)(hx:ev l x= .bool p)(hy:ev l y= .bool q)(kk:J S0 w0 L (RY S0 w0 m P ops K rest l'))(hl:l.set d (.bool (p==q))=l':=by dsimp only[List.set]):J S0 w0 L (RY S0 w0 m P ops K ((⟨some d, .binOp .eql xt x y yt,ty,pos,af,none⟩,kd)::rest) l):=J.pur hk (fun _=>D.eqB hx hy U.h) kk hl
end
end G
end Go.Proofs.YtkibkhgcbepolaaGreatDoor
