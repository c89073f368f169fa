/-
  Part 9 of the lemmas of these laws: PoolNames.
-/
import Derived.Test.YtjjbdaiioociaaaGreatDoorPPn8
set_option linter.unusedVariables false
set_option linter.unusedSimpArgs false
open Go.Proofs.Tryz
namespace Go.Proofs.YtjjbdaiioociaaaGreatDoor
namespace W
open Go.RowKit G
set_option maxRecDepth 20000
set_option maxHeartbeats 8000000
attribute [local irreducible] RS RX
theorem E119:Enters prog 119:= .mk func119 (by kernel_rfl) rfl
theorem E126:Enters prog 126:= .mk func126 (by kernel_rfl) rfl
theorem E132:Enters prog 132:= .mk func132 (by kernel_rfl) rfl
theorem E133:Enters prog 133:= .mk func133 (by kernel_rfl) rfl
theorem E164:Enters prog 164:= .mk func164 (by kernel_rfl) rfl
theorem hash{S0 S1:Nat→Prop}(kd:Int)(hkd:0≤kd∧kd<256)(a:Option Addr)(n c:Nat)(m:List Int)(a2:Option Addr)(n2 c2:Nat)(l:List Int)(TK:TypeId)(w:World)(K0:Kst w TK)(R0:IRow .u8 S0 w a n m)(hc:n≤c)(R1:IRow .u32 S1 w a2 n2 l)(hn2:n2≤5):
  Calls prog 164 #[.int .u8 kd, .slice a n c, .slice a2 n2 c2] w (Ret w fun v _=>v= .tuple #[.int .u64 (if 9991<m.length then 0 else S.hashS kd l m), .int .i64 (S.hashE m)]):=by
 replace R0:=R0.weaken (T:=fun k=>k<w.heap.size) (fun k hk _=>hk);replace R1:=R1.weaken (T:=fun k=>k<w.heap.size) (fun k hk _=>hk);have hKl:=K0.lt;have hml:=R0.len;have hll:=R1.len;refine eE 60 func164 rfl rfl fun hE=>?_
 refine sq fun _ J1=>RS.asI rfl (RS.asI rfl (nl J1 (wx fun _ J2=>sq fun _ J3=>RS.mvS rfl ?_)));refine RS.ln V42 ?_;refine RS.og ?_;refine nl J3 (C.ifd rfl (fun c4=>?_) (fun c4=>?_))
 ·have hgt:=c4;refine sq fun _ J5=>RS.asI rfl (RS.asI rfl (nl J5 (wp_ret ?_)));refine retII ?_;refine⟨_,rfl,hE,?_⟩;unfold S.hashE;rw[if_pos (by omega),if_pos (by omega)]
 have hgt:=c4;refine wp_skip (J2 _ _ (sq fun _ J6=>RS.mvI rfl ?_));refine RS.bs1 V42 T5 (fun b7 w7 e7 s7 x7 B7=>?_);refine RS.nm ?_;have zw7:=x7.size;have O1:IOwn w.heap.size w7 5 .u8 (some ⟨b7,0,none⟩) 1 1 [_]:=IOwn.of_blk B7 rfl rfl (by omega) (.cons (by simp only[lim];omega) (.nil _)) (by decide);refine RS.asS rfl (nl J6 (wx fun _ J8=>sq fun _ J9=>RS.mvS rfl ?_));refine RS.ln V260 ?_;refine RS.mvI rfl (nl J9 (wp_block ?_));refine C.loop (A:=Int×Option Addr×Nat×Nat) (fun p=>[(8, .slice p.2.1 p.2.2.1 p.2.2.2),(23, .int .i64 p.1)]) [10,24,25,26,27,28,29,30,31,32,33,34,35,36,37,38,39,40,41] (fun p w'=>Pr (fun k=>w.heap.size≤k) w7 w'∧((0≤p.1∧p.1≤n2)∧IOwn w.heap.size w' 5 .u8 p.2.1 p.2.2.1 p.2.2.2 (S.headS kd (l.take p.1.toNat)))) (fun p=>(n2 - p.1.toNat)) (0,some ⟨b7,0,none⟩,1,1) (by kernel_rfl) ?_ ?_
 ·exact⟨Pr.refl _ _,⟨by dsimp only;omega,by dsimp only;omega⟩,by simpa [S.headS]using O1⟩
 rintro p j w10 ⟨x10,hI⟩;have zw10:=x10.size;obtain⟨i,ao,no,co⟩:=p;dsimp only at hI;obtain⟨h1,O1⟩:=hI;have hol:=O1.len;rw[S.head_len,List.length_take]at hol;refine C.nmU ?_;refine sq fun _ J11=>?_
 refine RS.ol ?_;refine nl J11 (wx fun _ J12=>?_);replace hE:=(Ext.tr hE x7).trans x10.belo;replace K0:=(K0.ext x7).pro x10;replace R0:=(R0.ext x7).pro x10;refine C.ifd rfl (fun c13=>?_) (fun c13=>?_)
 ·refine wp_skip (J12 _ _ (wx fun _ J14=>wp_block (sq fun _ J15=>?_)));replace R1:=(R1.ext x7).pro x10;refine RS.idx R1 rfl rfl V260 C24 (by omega) (fun b16 o16 v16 h16 q16 r16=>?_);refine RS.nm ?_;simp only[lim]at r16;have q1:=q16;refine RS.o (D.load rfl V24 rfl (h16)) ?_;refine RS.asI rfl (nl J15 (region (RS.mvS rfl (RS.mvI rfl ?_))));refine RS.ob (D.shr_u32 rfl rfl (by omega) (by constructor<;>omega)) (fun z17=>?_);refine RS.o (D.conv rfl V24 V5 (W.u8m _)) ?_;refine RS.mvI rfl ?_;refine RS.ob (D.shr_u32 rfl rfl (by omega) (by constructor<;>omega)) (fun z18=>?_);refine RS.o (D.conv rfl V24 V5 (W.u8m _)) ?_;refine RS.mvI rfl ?_;refine RS.ob (D.shr_u32 rfl rfl (by omega) (by constructor<;>omega)) (fun z19=>?_);refine RS.o (D.conv rfl V24 V5 (W.u8m _)) ?_;refine RS.mvI rfl ?_;refine RS.o (D.conv rfl V24 V5 (W.u8m _)) ?_;refine RS.buildSlice (xs:=[.tmp 30, .tmp 33, .tmp 36, .tmp 38]) (vs:=[.int _ _, .int _ _, .int _ _, .int _ _]) (cs:=[.int _ _, .int _ _, .int _ _, .int _ _]) V42 T5 (by decide) rfl rfl rfl rfl rfl rfl (by intro v hv;simp only[List.mem_cons,List.not_mem_nil,or_false]at hv;rcases hv with rfl|rfl|rfl|rfl<;>rfl) rfl (fun b20 w20 e20 s20 x20 B20=>?_);refine RS.nm ?_;have Q1:IRow .u8 (fun k=>k=b20) w20 (some ⟨b20,0,none⟩) 4 [_,_,_,_]:=IRow.of_blk B20 rfl rfl rfl (.cons (by simp only[lim];omega) (.cons (by simp only[lim];omega) (.cons (by simp only[lim];omega) (.cons (by simp only[lim];omega) (.nil _)))));replace O1:=O1.ext x20;refine RS.appendI O1 Q1 rfl rfl V42 T5 rfl (by omega) (by decide) (by omega) (fun a21 c21 w21 N21 x21=>?_);refine RS.nm ?_;replace hE:=Ext.tr hE x20;replace hE:=hE.trans (x21.belQ (fun _ h=>(O1.lo _ h).1));replace x10:=x10.ext x20;replace x10:=x10.prnQ x21 (fun _ h=>(O1.lo _ h).1);replace K0:=K0.ext x20;replace K0:=K0.prQ x21 (fun _ h=>(O1.lo _ h).1);replace R0:=R0.ext x20;replace R0:=R0.prQ x21 (fun _ h=>(O1.lo _ h).1)
  replace R1:=R1.ext x20;replace R1:=R1.prQ x21 (fun _ h=>(O1.lo _ h).1);replace O1:=N21;refine RS.asS rfl (nl J14 (region ?_));refine RS.adi ?_;refine RS.mvI rfl (RS.nil ?_);change Nx _ _ _ _ _ _ _ _;refine C.next (i+1,_,_,_) ⟨rfl,rfl,trivial⟩ (by kernel_rfl) ?_ ?_
  ·refine⟨x10,⟨by dsimp only;omega,by dsimp only;omega⟩,?_⟩;dsimp only;rw[show(i+1).toNat=i.toNat+1 by omega,S.head_snoc _ _ _ (by omega),←q1];exact O1
  dsimp only;omega
 refine wp_exit (J8 _ _ (sq fun _ J22=>RS.mvS rfl (RS.mvS rfl ?_)));refine RS.buildSlice (xs:=[.tmp 43, .tmp 44]) (vs:=[.slice _ _ _, .slice _ _ _]) (cs:=[.slice _ _ _, .slice _ _ _]) V198 T42 (by decide) rfl rfl rfl rfl rfl rfl (by intro v hv;simp only[List.mem_cons,List.not_mem_nil,or_false]at hv;rcases hv with rfl|rfl<;>rfl) rfl (fun b23 w23 e23 s23 x23 B23=>?_);refine RS.nm ?_;have el:l.take i.toNat=l:=List.take_of_length_le (by omega);replace O1:=O1.ext x23;rw[el]at O1;have pO1:=O1.own.pre;have hpp:cat [⟨ao,no,co,S.headS kd l⟩,⟨a,n,c,m⟩]=S.headS kd l++m:=by simp[cat]
 have hhl:=S.head_len kd l;replace K0:=K0.ext x23;replace R0:=R0.ext x23;refine RS.call E134 (pieces [⟨ao,no,co,S.headS kd l⟩,⟨a,n,c,m⟩] _ _ _ _ _ K0 (PRow.of_blkE B23 rfl rfl ⟨⟨_,O1.row,pO1⟩,⟨_,R0,hc⟩,trivial⟩) (show(2:Nat)≤20 by decide) (by intro p hp;simp only[List.mem_cons,List.not_mem_nil,or_false]at hp;rcases hp with rfl|rfl<;>(dsimp only;omega)) (by rw[hpp,List.length_append];omega)) rfl (fun v24 w24 x24 A24=>?_);have zw24:=x24.size;subst A24;rw[hpp];have hsa:=S.sha_arr (S.headS kd l++m);refine RS.nm ?_;refine RS.move (v:= .tuple _) rfl ?_;refine RS.exA ?_;refine RS.exI ?_;refine RS.alloc T23 (fun b25 w25 e25 s25 x25 B25=>?_);refine RS.nm ?_;have A25:IArr .u8 w25 b25 32 (List.replicate 32 0) [] 23:=IArr.zero B25;clear B25;refine RS.storeArr A25 rfl rfl C23 (by decide) hsa.1 hsa.2 (fun w26 y26 N26=>?_);have zw26:=y26.size;replace A25:=N26;refine RS.asI rfl ?_;refine nl J22 (sq fun _ J27=>?_);refine RS.asI rfl (nl J27 (wx fun _ J28=>sq fun _ J29=>?_));refine RS.o (D.sliceArr (kl:= .i64) (kh:= .i64) rfl V23 C5 rfl rfl (by omega)) ?_;refine RS.ln V42 ?_;refine RS.mvI rfl (nl J29 (wp_block ?_));refine C.loop (A:=Int×Int) (fun p=>[(13, .int .u64 p.2),(51, .int .i64 p.1)]) [15,52,53,54,55,56,57,58,59,60] (fun p w'=>Ext w26 w'∧((0≤p.1∧p.1≤8)∧p.2=S.be ((S.sha (S.headS kd l++m)).take p.1.toNat))) (fun p=>(8 - p.1.toNat)) (0,0) (by kernel_rfl) ?_ ?_
 ·exact⟨Ext.refl _,⟨by dsimp only;omega,by dsimp only;omega⟩,rfl⟩
 rintro p j w30 ⟨x30,hI⟩;obtain⟨i,r⟩:=p;dsimp only at hI;obtain⟨g1,g2⟩:=hI;have g3:=S.be8_lt (S.sha (S.headS kd l++m)) i.toNat hsa.2 (by omega);rw[←g2]at g3;refine C.nmU ?_;refine sq fun _ J31=>?_
 refine RS.ol ?_;refine nl J31 (wx fun _ J32=>C.ifd rfl (fun c33=>?_) (fun c33=>?_))
 ·refine wp_skip (J32 _ _ (wx fun _ J34=>wp_block (wx fun _ J35=>?_)));replace A25:=A25.ext x30;have QI:=(A25.row (S:=fun k=>k=b25) rfl).sub 0 8 32 (by decide) (by decide) (by decide);refine region ?_;refine RS.idx QI rfl rfl V42 C5 (by omega) (fun b36 o36 v36 h36 q36 r36=>?_);refine RS.nm ?_;simp only[lim]at r36;have q2:=q36;rw[List.drop_zero,S.take_getD _ _ _ (by omega)]at q2;refine RS.o (D.load rfl V5 rfl (h36)) ?_;refine RS.asI rfl (nl J35 (region (RS.mvI rfl ?_)));refine RS.o (D.shl rfl rfl (by constructor<;>(try simp only[IntKind.bits])<;>omega) (by first|exact W.u64 (by omega)|exact W.u64m _)) ?_;refine RS.mvI rfl ?_;refine RS.o (D.conv rfl V5 V26 (by first|exact W.u64 (by omega)|exact W.u64m _)) ?_;refine RS.ob (D.bor_u64 rfl rfl (by omega) (by omega)) (fun z37=>?_);refine RS.asI rfl (nl J34 (region ?_));refine RS.adi ?_;refine RS.mvI rfl (RS.nil ?_);change Nx _ _ _ _ _ _ _ _;refine C.next (i+1,_) ⟨rfl,rfl,trivial⟩ (by kernel_rfl) ?_ ?_
  ·refine⟨x30,⟨by dsimp only;omega,by dsimp only;omega⟩,?_⟩;dsimp only;rw[show(i+1).toNat=i.toNat+1 by omega,←S.be_step _ _ hsa.2 (by omega) (by rw[hsa.1];decide),←g2,←q2];rfl
  dsimp only;omega
 refine wp_exit (J28 _ _ (sq fun _ J38=>RS.mvI rfl (RS.mvI rfl (RS.asI rfl (RS.asI rfl (nl J38 (wp_ret ?_)))))));refine retII ?_;replace hE:=Ext.tr ((Ext.tr (Ext.tr (Ext.tr hE x23) x24) x25).trans y26.belo) x30;refine⟨_,rfl,hE,?_⟩;unfold S.hashE;rw[if_neg (by omega),if_neg (by omega),g2,show i.toNat=8 by omega,S.hash_eq]
theorem challenge(r:Int)(hr:0≤r∧r<4294967296)(y:Int)(hy:0≤y∧y<4294967296){S0:Nat→Prop}(a:Option Addr)(n c:Nat)(m:List Int)(TK:TypeId)(w:World)(K0:Kst w TK)(R0:IRow .u8 S0 w a n m)(hc:n≤c):
  Calls prog 126 #[.int .u32 r, .int .u32 y, .slice a n c] w (Ret w fun v _=>v= .tuple #[.int .u32 (if S.hashE m=0 then S.chalS r y m else 0), .int .i64 (S.hashE m)]):=by
 replace R0:=R0.weaken (T:=fun k=>k<w.heap.size) (fun k hk _=>hk);refine eE 21 func126 rfl rfl fun hE=>?_
 refine sq fun _ J1=>RS.asI rfl (RS.asI rfl ?_);refine nl J1 (sq fun _ J2=>?_);refine RS.mvS rfl (RS.mvI rfl (RS.mvI rfl ?_));refine RS.bs2 V260 T24 (fun b3 w3 e3 s3 x3 B3=>?_);refine RS.nm ?_;replace K0:=K0.ext x3;replace R0:=R0.ext x3;refine RS.call E164 (hash (S1:=fun k=>k=b3) _ (by decide) _ _ _ _ _ 2 _ [r,y] _ _ K0 R0 hc (.of_blk B3 rfl rfl rfl (.cons (k:= .u32) (by simp only[lim];omega) (.cons (k:= .u32) (by simp only[lim];omega) (.nil _)))) (by decide)) rfl (fun v4 w4 x4 A4=>?_);subst A4;refine RS.nm ?_;refine RS.move (v:= .tuple _) rfl ?_;refine RS.exI ?_;refine RS.exI ?_;refine RS.asI rfl (RS.asI rfl (nl J2 (wx fun _ J5=>sq fun _ J6=>RS.mvI rfl ?_)));refine RS.on ?_;refine nl J6 ?_;replace hE:=Ext.tr (Ext.tr hE x3) x4;refine C.ifn rfl (fun c7=>?_) (fun c7=>?_)
 ·have he:=c7;refine sq fun _ J8=>RS.mvI rfl (RS.asI rfl (RS.asI rfl (nl J8 (wp_ret ?_))));refine retII ?_;refine⟨_,rfl,hE,?_⟩;rw[if_neg he]
 have he:=c7;have hm:¬9991<m.length:=by intro h;unfold S.hashE at he;rw[if_pos h]at he;omega
 rw[if_neg hm];have hb:=S.hash_bd 99 [r,y] m;refine wp_skip (J5 _ _ (sq fun _ J9=>RS.mvI rfl ?_));refine RS.o (D.rem rfl rfl (by omega) (by omega)) ?_;refine RS.o (D.conv rfl V26 V24 (by first|exact W.u32 (by omega)|exact W.u32m _)) ?_;refine RS.asI rfl (RS.asI rfl (nl J9 (wp_ret ?_)));refine retII ?_;refine⟨_,rfl,hE,?_⟩;rw[he,if_pos rfl,S.chal_eq]
theorem verifyW(y:Int)(hy:0≤y∧y<4294967296)(e s:Int)(he:0≤e∧e<4294967296)(hs:0≤s∧s<4294967296){S0:Nat→Prop}(a:Option Addr)(n c:Nat)(m:List Int)(TK:TypeId)(w:World)(K0:Kst w TK)(R0:IRow .u8 S0 w a n m)(hc:n≤c):
  Calls prog 83 #[.int .u32 y, .slice a n c, .agg ([.int .u32 e, .int .u32 s]:List Value).toArray] w (Ret w fun v _=>v= .int .i64 (S.verS y m e s)):=by
 replace R0:=R0.weaken (T:=fun k=>k<w.heap.size) (fun k hk _=>hk);have hml:=R0.len;refine eE 55 func83 rfl rfl fun hE=>?_
 refine sq fun _ J1=>?_
 refine RS.box rfl rfl (fun b2 w2 e2 s2 x2 B2=>?_);refine RS.nm ?_;refine RS.asI rfl (nl J1 (wx fun _ J3=>sq fun _ J4=>RS.mvI rfl ?_));refine RS.call E130 (group_Is _ (by omega) _) rfl (fun v5 w5 x5 A5=>?_);subst A5;refine RS.nm ?_;refine RS.o (D.not rfl) ?_;refine nl J4 ?_;replace hE:=Ext.tr (Ext.tr hE x2) x5;refine C.ifnot rfl (fun c6=>?_) (fun c6=>?_)
 ·have hG:=c6;refine sAI rfl (wp_ret ?_);refine rI hE ?_;unfold S.verS;rw[if_pos (by simpa using hG)]
 have hG:S.isG y=true:=by simpa using c6
 refine wp_skip (J3 _ _ (wx fun _ J8=>sq fun _ J9=>RS.mvS rfl ?_));refine RS.ln V42 ?_;refine RS.og ?_;refine nl J9 (C.ifd rfl (fun c10=>?_) (fun c10=>?_))
 ·have hL:=c10;refine sAI rfl (wp_ret ?_);refine rI hE ?_;unfold S.verS;rw[if_neg (by simp[hG]),if_pos (by omega)]
 have hL:=c10;refine wp_skip (J8 _ _ (wx fun _ J12=>sq fun _ J13=>?_));refine RS.fl 0 V32 rfl C24 ?_;replace B2:=B2.ext x5;refine RS.ld V24 B2 ?_;refine RS.fl 1 V32 rfl C24 ?_;refine RS.ld V24 B2 ?_;refine RS.o (D.max2 rfl rfl) ?_;refine RS.oe ?_;refine nl J13 (C.ifd rfl (fun c14=>?_) (fun c14=>?_))
 ·have hQ:=c14;refine sAI rfl (wp_ret ?_);refine rI hE ?_;unfold S.verS;rw[if_neg (by simp[hG]),if_neg (by omega),if_pos (by split at hQ<;>omega)]
 have hQ:e<500000003∧s<500000003:=by have:=c14;split at this<;>omega
 refine wp_skip (J12 _ _ (sq fun _ J16=>RS.mvI rfl ?_));refine RS.fl 0 V32 rfl C24 ?_;refine RS.ld V24 B2 ?_;refine RS.cw V24 V26 ?_;refine RS.o (D.sub rfl rfl (W.u64 (by omega))) ?_;refine RS.call E132 (group_Pow _ (by omega) _ (by omega) _) rfl (fun v17 w17 x17 A17=>?_);subst A17;rw[if_pos hG];have hp1:=S.pw_nonneg y (500000003 - e) 1000000007 (by decide);have hp2:=S.pw_lt y (500000003 - e) 1000000007 (by decide);refine RS.nm ?_;refine RS.move (v:= .tuple _) rfl ?_;refine RS.exI ?_;refine RS.exI ?_;refine RS.asI rfl (RS.asI rfl ?_);refine nl J16 (sq fun _ J18=>?_);refine RS.fl 1 V32 rfl C24 ?_;replace B2:=B2.ext x17;refine RS.ld V24 B2 ?_;refine RS.cw V24 V26 ?_;refine RS.call E119 (group_Base _ (by omega) _) rfl (fun v19 w19 x19 A19=>?_);subst A19;rw[S.pub_eq];have hb1:=S.pub_bd s;refine RS.nm ?_;refine RS.mvI rfl ?_;have hmm:(S.isG (S.pubS s)&&S.isG (S.pw y (500000003 - e) 1000000007))=true:=by rw[S.isG_pub s (by omega),S.isG_back _ hG (by omega)];rfl
 refine RS.call E133 (group_Mul _ (by omega) _ (by omega) _) rfl (fun v20 w20 x20 A20=>?_);subst A20;rw[if_pos hmm];have hp3:=Int.emod_nonneg (S.pubS s*S.pw y (500000003 - e) 1000000007) (show(1000000007:Int)≠0 by decide);refine RS.nm ?_;refine RS.move (v:= .tuple _) rfl ?_;refine RS.exI ?_;refine RS.exI ?_;refine RS.asI rfl (RS.asI rfl (nl J18 (wx fun _ J21=>sq fun _ J22=>RS.mvI rfl (RS.mvI rfl (RS.mvS rfl ?_)))));have hh:S.hashE m=0:=by unfold S.hashE;rw[if_neg (by omega)]
 replace K0:=((((K0.ext x2).ext x5).ext x17).ext x19).ext x20;replace R0:=((((R0.ext x2).ext x5).ext x17).ext x19).ext x20;refine RS.call E126 (challenge _ (by omega) _ (by omega) _ _ _ _ _ _ K0 R0 hc) rfl (fun v23 w23 x23 A23=>?_);subst A23;rw[if_pos hh,hh];refine RS.nm ?_;refine RS.move (v:= .tuple _) rfl ?_;refine RS.exI ?_;refine RS.exI ?_;refine RS.asI rfl (RS.asI rfl ?_);refine nl J22 (sq fun _ J24=>?_);refine RS.mvI rfl ?_;refine RS.on ?_;refine RS.mvB rfl ?_;replace hE:=Ext.tr (Ext.tr (Ext.tr (Ext.tr hE x17) x19) x20) x23;refine RS.splitn 52 rfl rfl (fun c25=>?_) (fun c25=>?_)
 ·refine RS.nm ?_;refine RS.skT 52 ?_;refine RS.skT 52 ?_;refine RS.skT 52 ?_;refine RS.skT 52 ?_;refine RS.pkt ?_;refine nl J24 ?_;refine C.ift rfl ?_;refine sAI rfl (wp_ret ?_);refine rI hE ?_;unfold S.verS;rw[if_neg (by simp[hG]),if_neg (by omega),if_neg (by omega)];simp_all
 refine RS.nm ?_;refine RS.wt 52 ?_;refine RS.mvI rfl ?_;refine RS.wt 52 ?_;refine RS.fl 0 V32 rfl C24 ?_;refine RS.wt 52 ?_;replace B2:=((B2.ext x19).ext x20).ext x23;refine RS.ld V24 B2 ?_;refine RS.wt 52 ?_;refine RS.on ?_;refine RS.pk ?_;refine nl J24 (C.ifn rfl (fun c27=>?_) (fun c27=>?_))
 ·refine sAI rfl (wp_ret ?_);refine rI hE ?_;unfold S.verS;rw[if_neg (by simp[hG]),if_neg (by omega),if_neg (by omega)];simp_all
 refine wp_skip (J21 _ _ (sAI rfl (wp_ret ?_)));refine rI hE ?_;unfold S.verS;rw[if_neg (by simp[hG]),if_neg (by omega),if_neg (by omega)];simp_all
theorem T34:TI prog 34 11 112 [.int .u32 0, .slice none 0 0, .int .u64 0, .int .u8 0, .string .empty, .int .u8 0, .int .i64 0, .int .u64 0, .string .empty, .int .u32 0, .int .u32 0]:=by
 have h:(prog.info? 34).map (fun i=>(i.size,i.bytes,i.zero))=some (11,112,some (.agg #[.int .u32 0, .slice none 0 0, .int .u64 0, .int .u8 0, .string .empty, .int .u8 0, .int .i64 0, .int .u64 0, .string .empty, .int .u32 0, .int .u32 0])):=by kernel_rfl
 exact TI.of h rfl
theorem F34:SI prog 34 [(0,1),(1,1),(2,1),(3,6),(9,2)]:=⟨_,V34,by kernel_rfl,by kernel_rfl⟩
theorem E83:Enters prog 83:= .mk func83 (by kernel_rfl) rfl
theorem verifyO{S0:Nat→Prop}(o:S.OpV)(ho:o.ok)(pa:Option Addr)(pc:Nat)(TK:TypeId)(w:World)(K0:Kst w TK)(D0:WRow .u8 32 S0 w pa o.n o.ids)(hc:o.n≤pc):
  Calls prog 43 #[.agg ([.int .u32 o.au, .slice pa o.n pc, .int .u64 o.st, .int .u8 o.k, .string o.key, .int .u8 o.vk, .int .i64 o.num, .int .u64 o.bits, .string o.t, .int .u32 o.e, .int .u32 o.s]:List Value).toArray] w (Ret w fun v _=>v= .int .i64 (S.verE o)):=by
 replace D0:=D0.weaken (T:=fun k=>k<w.heap.size) (fun k hk _=>hk);have o1:=ho.au;have o7:=ho.e;have o8:=ho.s;refine eE 21 func43 rfl rfl fun hE=>?_
 refine sq fun _ J1=>?_
 refine RS.box rfl rfl (fun b2 w2 e2 s2 x2 B2=>?_);refine RS.nm ?_;refine RS.asI rfl (nl J1 (wx fun _ J3=>sq fun _ J4=>?_));refine RS.la V34 C34 B2 11 ?_;replace D0:=D0.ext x2;refine RS.call E82 (checkO o ho _ _ _ D0 hc) rfl (fun v5 w5 x5 A5=>?_);subst A5;refine RS.nm ?_;refine RS.asI rfl ?_;refine nl J4 (sq fun _ J6=>?_);refine RS.mvI rfl ?_;refine RS.on ?_;refine nl J6 ?_;replace hE:=Ext.tr (Ext.tr hE x2) x5;refine C.ifn rfl (fun c7=>?_) (fun c7=>?_)
 ·have hk:=c7;refine sq fun _ J8=>RS.mvI rfl (RS.asI rfl (nl J8 (wp_ret ?_)));refine retI rfl rfl ?_;refine⟨_,rfl,hE,?_⟩;unfold S.verE;rw[if_neg hk]
 have hk:=c7;refine wp_skip (J3 _ _ (sq fun _ J9=>?_));replace B2:=B2.ext x5;refine RS.la V34 C34 B2 11 ?_;replace D0:=D0.ext x5;refine RS.call E79 (messageO o ho _ _ _ D0 hc) rfl (fun v10 w10 x10 A10=>?_);obtain⟨a10,n10,c10,xs,rfl,OM,hxs⟩:=A10;rw[if_pos (S.check_bare hk)]at hxs;subst hxs;refine RS.nm ?_;refine RS.move (v:= .tuple _) rfl ?_;refine RS.exS ?_;refine RS.exI ?_;refine RS.asS rfl (RS.asI rfl ?_);refine nl J9 (sq fun _ J11=>?_);refine RS.fl 0 V34 rfl C24 ?_;replace B2:=B2.ext x10;refine RS.ld V24 B2 ?_;refine RS.mvS rfl ?_;refine RS.fl 9 V34 rfl C32 ?_;refine RS.la V32 C32 B2 2 ?_;replace K0:=((K0.ext x2).ext x5).ext x10;refine RS.call E83 (verifyW _ (by omega) _ _ (by omega) (by omega) _ _ _ _ _ _ K0 OM.row OM.own.pre) rfl (fun v12 w12 x12 A12=>?_);subst A12;refine RS.nm ?_;refine RS.asI rfl (nl J11 (wp_ret ?_));refine retI rfl rfl ?_;replace hE:=Ext.tr (Ext.tr hE x10) x12;refine⟨_,rfl,hE,?_⟩;unfold S.verE;rw[if_pos hk]
end W
namespace S
open G
theorem be_rev:∀(k:Nat) (n:Int),0≤n→n<256 ^ k→be (leK k n).reverse=n
 |0,n,h0,h=>by simp at h;simp[leK,be];omega
 |k+1,n,h0,h=>by
  rw[Int.pow_succ]at h;rw[leK,List.reverse_cons,be_snoc,be_rev k (n / 256) (by omega) (Int.ediv_lt_of_lt_mul (by decide) h)];omega
theorem le_be:∀ys:List Int,Bd .u8 ys→leK ys.length (be ys.reverse)=ys
 |[],_=>rfl
 |y::t,h=>by
  have hy:=h y List.mem_cons_self;simp only[lim]at hy;rw[List.length_cons,leK,List.reverse_cons,be_snoc,show(be t.reverse*256+y) % 256=y by omega,show(be t.reverse*256+y) / 256=be t.reverse by omega,le_be t fun x hx=>h x (List.mem_cons_of_mem _ hx)]
theorem be_low:∀(t:List Int) (a:Int),0≤a→Bd .u8 t→a*256 ^ t.length≤t.foldl (fun a x=>a*256+x) a
 |[],a,_,_=>by simp
 |x::t,a,ha,h=>by
  have hx:=h x List.mem_cons_self;simp only[lim]at hx;have:=be_low t (a*256+x) (by omega) fun y hy=>h y (List.mem_cons_of_mem _ hy);rw[List.foldl_cons,List.length_cons,Int.pow_succ];refine Int.le_trans ?_ this;rw[Int.mul_comm _ 256,←Int.mul_assoc];exact Int.mul_le_mul_of_nonneg_right (by omega) (Int.pow_nonneg (by decide))
theorem blen_rng(n:Int)(h:0<n)(h2:n<18446744073709551616):256 ^ (blen n - 1)≤n∧n<256 ^ blen n:=by
 unfold blen
 repeat' split
 all_goals simp
 all_goals omega
theorem blen_of(n:Int)(k:Nat)(h1:1≤k∧k≤8)(h2:256 ^ (k - 1)≤n)(h3:n<256 ^ k):blen n=k:=by
 have hk:k=1∨k=2∨k=3∨k=4∨k=5∨k=6∨k=7∨k=8:=by omega
 rcases hk with rfl|rfl|rfl|rfl|rfl|rfl|rfl|rfl<;>simp at h2 h3<;>unfold blen<;>repeat' split
 all_goals omega
def readN(b:List Int):Option (Int×Nat):=
 match b with
 |[]=>none
 |h::t=>if h≤247 then some (h,1)else
  if t.length<(h - 247).toNat∨t.getD 0 0=0∨(h=248∧t.getD 0 0≤247)then none else some (be (t.take (h - 247).toNat),(h - 247).toNat+1)
theorem head_get(l r:List Int)(h:0<l.length):(l++r).getD 0 0=l.getD 0 0:=by
 cases l with
 |nil=>simp at h
 |cons a l=>rfl
theorem be_head(x:Int)(t:List Int)(hB:Bd .u8 (x::t)):x*256 ^ t.length≤be (x::t)∧be (x::t)<(x+1)*256 ^ t.length:=by
 have hx:=hB x List.mem_cons_self;have ht:Bd .u8 t:=fun y hy=>hB y (List.mem_cons_of_mem _ hy);have e:be (x::t)=t.foldl (fun a x=>a*256+x) x:=by simp[be]
 rw[e];exact⟨be_low t x hx.1 ht,(be_go t x hx.1 ht).2⟩
theorem read_num(n:Int)(h0:0≤n)(h1:n<18446744073709551616)(r:List Int):readN (numS n++r)=some (n,(numS n).length):=by
 by_cases hs:n≤247
 ·rw[numS_small n hs];simp[readN,hs]
 ·rw[numS_large n hs,List.cons_append];have hb:=blen_rng n (by omega) h1;have hp:=blen_pos n (by omega);have hv:=be_rev (blen n) n h0 hb.2;have hl:(leK (blen n) n).reverse.length=blen n:=by rw[List.length_reverse,leK_len]
  have hB:Bd .u8 (leK (blen n) n).reverse:=fun x hx=>leK_bd _ _ x (List.mem_reverse.1 hx);generalize (leK (blen n) n).reverse=l at hv hl hB;have hk:(247+(blen n:Int) - 247).toNat=blen n:=by omega
  have hx:¬l.getD 0 0=0∧¬(247+(blen n:Int)=248∧l.getD 0 0≤247):=by
   cases l with
   |nil=>simp at hl;omega
   |cons x t=>
    have hh:=be_head x t hB;rw[hv]at hh;simp only[List.length_cons]at hl;rw[show t.length=blen n - 1 by omega]at hh;simp only[List.getD_cons_zero];refine⟨fun e=>?_,fun e=>?_⟩
    ·rw[e]at hh;omega
    ·rw[show blen n - 1=0 by omega]at hh;simp at hh;omega
  simp only[readN,hk,head_get l r (by omega)];rw[if_neg (by omega),if_neg,←hl,List.take_left,hv]
  ·rfl
  ·rintro(h|h|h)
   ·rw[List.length_append]at h;omega
   ·exact hx.1 h
   ·exact hx.2 h
theorem read_inv{b:List Int}(hB:Bd .u8 b){n:Int}{u:Nat}(h:readN b=some (n,u)):0≤n∧n<18446744073709551616∧u≤b.length∧b=numS n++b.drop u∧u=(numS n).length:=by
 cases b with
 |nil=>cases h
 |cons x t=>
  have hx:=hB x List.mem_cons_self;have ht:Bd .u8 t:=fun y hy=>hB y (List.mem_cons_of_mem _ hy);simp only[lim]at hx;simp only[readN]at h;by_cases hs:x≤247
  ·rw[if_pos hs]at h;simp only[Option.some.injEq,Prod.mk.injEq]at h;obtain⟨rfl,rfl⟩:=h;rw[numS_small x hs];exact⟨hx.1,by omega,by simp,rfl,rfl⟩
  ·rw[if_neg hs]at h;by_cases hc:t.length<(x - 247).toNat∨t.getD 0 0=0∨(x=248∧t.getD 0 0≤247)
   ·rw[if_pos hc]at h;cases h
   ·rw[if_neg hc]at h;simp only[Option.some.injEq,Prod.mk.injEq]at h;obtain⟨rfl,rfl⟩:=h;generalize hk:(x - 247).toNat=k at*;have hl:(t.take k).length=k:=by rw[List.length_take];omega
    have hT:=ht.take k;have hrev:=le_be (t.take k).reverse fun y hy=>hT y (List.mem_reverse.1 hy);rw[List.reverse_reverse,List.length_reverse,hl]at hrev;have hb:=be_bd _ hT;rw[hl]at hb;have hp:(256:Int) ^ k≤256 ^ 8:=pow256 (by omega);have h8:(256:Int) ^ 8=18446744073709551616:=by decide
    have hg:(t.take k).getD 0 0=t.getD 0 0:=by
     have:=head_get (t.take k) (t.drop k) (by omega);rw[List.take_append_drop]at this;exact this.symm
    have hlow:256 ^ (k - 1)≤be (t.take k)∧247<be (t.take k):=by
     generalize t.take k=l at*;cases l with
     |nil=>simp at hl;omega
     |cons z r=>
      have hz:=hT z List.mem_cons_self;have hh:=be_head z r hT;simp only[List.length_cons]at hl;simp only[List.getD_cons_zero]at hg;rw[show r.length=k - 1 by omega]at hh;have hz0:1≤z:=by have:=hz.1;rw[←hg]at hc;omega
      have h1:256 ^ (k - 1)≤be (z::r):=Int.le_trans (by have:=Int.mul_le_mul_of_nonneg_right hz0 (Int.pow_nonneg (by decide):(0:Int)≤256 ^ (k - 1));omega) hh.1;refine⟨h1,?_⟩;by_cases h1k:k=1
      ·subst h1k;simp at hh;rw[←hg]at hc;omega
      ·have:(256:Int) ^ 1≤256 ^ (k - 1):=pow256 (by omega);omega
    have hbl:=blen_of _ k (by omega) hlow.1 hb.2;have hn:numS (be (t.take k))=x::t.take k:=by
     rw[numS_large _ (by omega),hbl,hrev,List.reverse_reverse];congr 1;omega
    refine⟨hb.1,by omega,by simp;omega,?_,?_⟩
    ·rw[hn,List.drop_succ_cons,List.cons_append,List.take_append_drop]
    ·rw[hn,List.length_cons,hl]
def readB(most:Int)(b:List Int):Option (List Int×Nat):=
 match readN b with
 |some (n,u)=>if n≤most∧n≤(b.length:Int) - u then some ((b.drop u).take n.toNat,u+n.toNat)else none
 |none=>none
theorem readB_num(most:Int)(s r:List Int)(h:(s.length:Int)≤most)(hm:s.length<18446744073709551616):readB most (numS s.length++s++r)=some (s,(numS s.length).length+s.length):=by
 unfold readB;rw[List.append_assoc,read_num _ (by omega) (by omega)];simp only[List.length_append];rw[if_pos (by omega),List.drop_left,show((s.length:Int)).toNat=s.length from rfl,List.take_left]
theorem readB_inv{most:Int}{b:List Int}(hB:Bd .u8 b){s:List Int}{u:Nat}(h:readB most b=some (s,u)):(s.length:Int)≤most∧u≤b.length∧b=numS s.length++s++b.drop u∧u=(numS s.length).length+s.length:=by
 unfold readB at h;split at h
 ·rename_i n v hr;obtain⟨h0,h1,h2,h3,h4⟩:=read_inv hB hr;split at h
  ·rename_i hc;simp only[Option.some.injEq,Prod.mk.injEq]at h;obtain⟨rfl,rfl⟩:=h;have hl:((b.drop v).take n.toNat).length=n.toNat:=by rw[List.length_take,List.length_drop];omega
   rw[hl,show(n.toNat:Int)=n by omega];refine⟨hc.1,by omega,?_,by omega⟩
   conv=>lhs;rw[h3]
   rw[List.append_assoc];congr 1;rw[←List.drop_drop,List.take_append_drop]
  ·cases h
 ·cases h
def readI(most:Int)(b:List Int):Option (Nat×List Int×Nat):=
 match readN b with
 |some (n,u)=>if n≤most∧n≤((b.length:Int) - u) / 32∧Rising n.toNat ((b.drop u).take (32*n.toNat))then some (n.toNat,(b.drop u).take (32*n.toNat),u+32*n.toNat)else none
 |none=>none
theorem readI_num(most:Int)(n:Nat)(ids r:List Int)(h:(n:Int)≤most)(hm:n<18446744073709551616)(hl:ids.length=32*n)(hr:Rising n ids):readI most (listS n ids++r)=some (n,ids,(listS n ids).length):=by
 unfold readI listS;rw[List.append_assoc,read_num _ (by omega) (by omega)];simp only[List.length_append];rw[List.drop_left,show((n:Int)).toNat=n from rfl,←hl,List.take_left,if_pos ⟨h,by omega,hr⟩]
theorem readI_inv{most:Int}{b:List Int}(hB:Bd .u8 b){n:Nat}{ids:List Int}{u:Nat}(h:readI most b=some (n,ids,u)):(n:Int)≤most∧u≤b.length∧ids.length=32*n∧Rising n ids∧b=listS n ids++b.drop u∧u=(listS n ids).length∧n<18446744073709551616:=by
 unfold readI at h;split at h
 ·rename_i m v hr;obtain⟨h0,h1,h2,h3,h4⟩:=read_inv hB hr;split at h
  ·rename_i hc;simp only[Option.some.injEq,Prod.mk.injEq]at h;obtain⟨rfl,rfl,rfl⟩:=h;have hl:((b.drop v).take (32*m.toNat)).length=32*m.toNat:=by rw[List.length_take,List.length_drop];omega
   unfold listS;rw[List.length_append,hl,show(m.toNat:Int)=m by omega];refine⟨hc.1,by omega,rfl,hc.2.2,?_,by omega,by omega⟩
   conv=>lhs;rw[h3]
   rw[List.append_assoc];congr 1;rw[←List.drop_drop,List.take_append_drop]
  ·cases h
 ·cases h
def unzig(z:Int):Int:=if z % 2=0 then z / 2 else - (z / 2) - 1
theorem unzig_zig(n:Int):unzig (zig n)=n:=by unfold unzig zig;repeat' split<;>omega
theorem zig_unzig(z:Int)(h:0≤z):zig (unzig z)=z:=by unfold unzig zig;repeat' split<;>omega
theorem unzig_bd(z:Int)(h:0≤z∧z<18446744073709551616): -9223372036854775808≤unzig z∧unzig z≤9223372036854775807:=by unfold unzig;split<;>omega
theorem be8_rev(n:Int):be8 n=(leK 8 n).reverse:=by
 apply List.ext_getElem
 ·rw[be8_len,List.length_reverse,leK_len]
 intro i h1 h2;rw[be8_len]at h1;have g1:=be8_get n i h1;have g2:=leK_get 8 n (7 - i) (by omega);rw[List.getD_eq_getElem?_getD,List.getElem?_eq_getElem (by rw[be8_len];exact h1),Option.getD_some]at g1;rw[List.getD_eq_getElem?_getD,List.getElem?_eq_getElem (by rw[leK_len];omega),Option.getD_some]at g2;have e:(leK 8 n).length - 1 - i=7 - i:=by rw[leK_len]
 rw[g1,List.getElem_reverse];simp only[e];rw[g2,show 8*(7 - i)=56 - 8*i by omega]
theorem be_be8(n:Int)(h:0≤n∧n<18446744073709551616):be (be8 n)=n:=by
 rw[be8_rev];exact be_rev 8 n h.1 (by simp;omega)
theorem be8_be(xs:List Int)(hB:Bd .u8 xs)(hl:xs.length=8):be8 (be xs)=xs:=by
 have:=le_be xs.reverse fun y hy=>hB y (List.mem_reverse.1 hy);rw[List.reverse_reverse,List.length_reverse,hl]at this;rw[be8_rev,this,List.reverse_reverse]
def valR(k:Int)(r:List Int):Option (Int×Int×ByteArray×Nat):=
 if k=1 then(readN r).bind fun x=>some (unzig x.1,0,ByteArray.empty,x.2)
 else if k=2 then(if r.length<8 then none else some (0,be (r.take 8),ByteArray.empty,8))
 else if k=3 then(readB 30 r).bind fun x=>some (0,0,strOfNums x.1,x.2)
 else some (0,0,ByteArray.empty,0)
def valD(b:List Int):Option (Int×Int×Int×ByteArray×Nat):=
 match b with
 |[]=>none
 |k::r=>(valR k r).bind fun x=>if FineV k x.1 x.2.1 x.2.2.1 then some (k,x.1,x.2.1,x.2.2.1,x.2.2.2+1)else none
theorem val_num{k num bits:Int}{t:ByteArray}(r:List Int)(hF:FineV k num bits t)(hn: -9223372036854775808≤num∧num≤9223372036854775807)(hb:0≤bits∧bits<18446744073709551616):
  valD (valS k num bits t++r)=some (k,num,bits,t,(valS k num bits t).length):=by
 have hF':=hF;rcases hF with⟨rfl,rfl,rfl⟩|⟨rfl,rfl,rfl,hc⟩|⟨rfl,rfl,rfl,ht,ha⟩
 ·have hz:=zig_bd num hn;simp only[valS,if_true,List.cons_append,List.nil_append,valD,valR];rw[read_num _ hz.1 hz.2];simp only[Option.bind_some,unzig_zig,if_pos hF',List.length_cons]
 ·simp only[valS,show ¬(2:Int)=1 by decide,if_true,if_false,List.cons_append,List.nil_append,valD,valR,List.length_append,be8_len];rw[if_neg (by omega),List.take_append_of_le_length (by rw[be8_len];exact Nat.le_refl _),List.take_of_length_le (by rw[be8_len];exact Nat.le_refl _),be_be8 _ hb];simp only[Option.bind_some,if_pos hF',List.length_cons,be8_len]
 ·simp only[valS,show ¬(3:Int)=1 by decide,show ¬(3:Int)=2 by decide,if_true,if_false,List.cons_append,List.nil_append,valD,valR];have:=readB_num 30 (bys t) r (by rw[bys_len];omega) (by rw[bys_len];omega);rw[bys_len]at this;rw[this];simp only[Option.bind_some,strOf_bys,if_pos hF',List.length_cons,List.length_append,bys_len]
theorem val_inv{b:List Int}(hB:Bd .u8 b){k num bits:Int}{t:ByteArray}{u:Nat}(h:valD b=some (k,num,bits,t,u)):
  FineV k num bits t∧(0≤k∧k<256)∧(-9223372036854775808≤num∧num≤9223372036854775807)∧(0≤bits∧bits<18446744073709551616)∧u≤b.length∧b=valS k num bits t++b.drop u∧u=(valS k num bits t).length:=by
 cases b with
 |nil=>cases h
 |cons x r=>
  have hx:=hB x List.mem_cons_self;have hr:Bd .u8 r:=fun y hy=>hB y (List.mem_cons_of_mem _ hy);simp only[lim]at hx;simp only[valD,Option.bind_eq_some_iff]at h;obtain⟨⟨n,c,s,v⟩,h1,h2⟩:=h;simp only at h2;split at h2
  ·rename_i hF;simp only[Option.some.injEq,Prod.mk.injEq]at h2;obtain⟨rfl,rfl,rfl,rfl,rfl⟩:=h2;refine⟨hF,hx,?_⟩;rw[List.drop_succ_cons];unfold valR at h1;unfold valS;split at h1
   ·rename_i h;simp only[Option.bind_eq_some_iff,Option.some.injEq,Prod.mk.injEq]at h1;obtain⟨⟨m,w⟩,h1,rfl,rfl,rfl,rfl⟩:=h1;obtain⟨q1,q2,q3,q4,q5⟩:=read_inv hr h1;simp only at q3 q4 q5⊢;rw[if_pos h,zig_unzig _ q1];refine⟨unzig_bd _ ⟨q1,q2⟩,by decide,by simp;omega,?_,by simp;omega⟩;rw[List.cons_append,List.nil_append,List.cons_append,←q4]
   ·rename_i h;rw[if_neg h];split at h1
    ·rename_i h;rw[if_pos h];split at h1
     ·cases h1
     ·simp only[Option.some.injEq,Prod.mk.injEq]at h1;obtain⟨rfl,rfl,rfl,rfl⟩:=h1;have hb:=be8_lt r 8 hr (Nat.le_refl _);rw[be8_be _ (hr.take 8) (by rw[List.length_take];omega)];refine⟨by decide,hb,by simp;omega,?_,by simp;omega⟩;rw[List.cons_append,List.nil_append,List.cons_append,List.take_append_drop]
    ·rename_i h;rw[if_neg h];split at h1
     ·rename_i h;rw[if_pos h];simp only[Option.bind_eq_some_iff,Option.some.injEq,Prod.mk.injEq]at h1;obtain⟨⟨m,w⟩,h1,rfl,rfl,rfl,rfl⟩:=h1;obtain⟨q1,q2,q3,q4⟩:=readB_inv hr h1;have hm:Bd .u8 m:=fun y hy=>hr y (by rw[q3];simp[hy]);have hsz:(strOfNums m).size=m.length:=by rw[←bys_len,bys_strOf _ hm]
      simp only at q2 q3 q4⊢;rw[bys_strOf _ hm,hsz];refine⟨by decide,by decide,by simp;omega,?_,by simp;omega⟩;rw[List.cons_append,List.nil_append,List.cons_append,←q3]
     ·rename_i h;rcases hF with⟨hk,_⟩|⟨hk,_⟩|⟨hk,_⟩<;>contradiction
  ·cases h2
def oneR(b:List Int):Option (Int×List Int):=
 match b with
 |[]=>none
 |x::t=>some (x,t)
def numR(b:List Int):Option (Int×List Int):=(readN b).bind fun r=>some (r.1,b.drop r.2)
def idsR(b:List Int):Option (Nat×List Int×List Int):=(readI 4 b).bind fun r=>some (r.1,r.2.1,b.drop r.2.2)
def keyR(b:List Int):Option (ByteArray×List Int):=(readB 20 b).bind fun r=>some (strOfNums r.1,b.drop r.2)
structure ActV where
 (vk num bits:Int)(key t:ByteArray)
def valV(key:ByteArray)(b:List Int):Option (ActV×List Int):=(valD b).bind fun r=>some (⟨r.1,r.2.1,r.2.2.1,key,r.2.2.2.1⟩,b.drop r.2.2.2.2)
def actR(k:Int)(b:List Int):Option (ActV×List Int):=
 if k=1 then some (⟨0,0,0, .empty, .empty⟩,b)
 else(keyR b).bind fun r=>if k=4 then valV r.1 r.2 else some (⟨0,0,0,r.1, .empty⟩,r.2)
def decS(b:List Int):Option OpV:=
 (oneR b).bind fun h=>if h.1=111 then(numR h.2).bind fun a=>(idsR a.2).bind fun l=>(numR l.2.2).bind fun t=>(oneR t.2).bind fun k=>(actR k.1 k.2).bind fun x=>(numR x.2).bind fun e=>(numR e.2).bind fun s=>
  if s.2=[]∧checkE ⟨a.1,t.1,k.1,x.1.vk,x.1.num,x.1.bits,e.1,s.1,l.1,l.2.1,x.1.key,x.1.t⟩=0 then some ⟨a.1,t.1,k.1,x.1.vk,x.1.num,x.1.bits,e.1,s.1,l.1,l.2.1,x.1.key,x.1.t⟩else none
 else none
theorem num_R(n:Int)(h0:0≤n)(h1:n<18446744073709551616)(r:List Int):numR (numS n++r)=some (n,r):=by
 unfold numR;rw[read_num n h0 h1];simp
theorem numR_inv{b:List Int}(hB:Bd .u8 b){n:Int}{r:List Int}(h:numR b=some (n,r)):0≤n∧n<18446744073709551616∧b=numS n++r∧Bd .u8 r:=by
 simp only[numR,Option.bind_eq_some_iff,Option.some.injEq,Prod.mk.injEq]at h;obtain⟨⟨m,u⟩,h,rfl,rfl⟩:=h;obtain⟨q1,q2,_,q4,_⟩:=read_inv hB h;exact⟨q1,q2,q4,hB.drop _⟩
theorem ids_R(n:Nat)(ids r:List Int)(h:n≤4)(hl:ids.length=32*n)(hr:Rising n ids):idsR (listS n ids++r)=some (n,ids,r):=by
 unfold idsR;rw[readI_num 4 n ids r (by omega) (by omega) hl hr];simp
theorem idsR_inv{b:List Int}(hB:Bd .u8 b){n:Nat}{ids r:List Int}(h:idsR b=some (n,ids,r)):n≤4∧ids.length=32*n∧Rising n ids∧b=listS n ids++r∧Bd .u8 r:=by
 simp only[idsR,Option.bind_eq_some_iff,Option.some.injEq,Prod.mk.injEq]at h;obtain⟨⟨m,s,u⟩,h,rfl,rfl,rfl⟩:=h;obtain⟨q1,_,q3,q4,q5,_⟩:=readI_inv hB h;exact⟨by omega,q3,q4,q5,hB.drop _⟩
theorem key_R(s:ByteArray)(r:List Int)(h:s.size≤20):keyR ((numS s.size++bys s)++r)=some (s,r):=by
 unfold keyR;have:=readB_num 20 (bys s) r (by rw[bys_len];omega) (by rw[bys_len];omega);rw[bys_len]at this;rw[this];simp only[Option.bind_some,strOf_bys];rw[←bys_len s,←List.length_append,List.drop_left]
theorem keyR_inv{b:List Int}(hB:Bd .u8 b){s:ByteArray}{r:List Int}(h:keyR b=some (s,r)):s.size≤20∧b=(numS s.size++bys s)++r∧Bd .u8 r:=by
 simp only[keyR,Option.bind_eq_some_iff,Option.some.injEq,Prod.mk.injEq]at h;obtain⟨⟨m,u⟩,h,rfl,rfl⟩:=h;obtain⟨q1,q2,q3,q4⟩:=readB_inv hB h;have hm:Bd .u8 m:=fun y hy=>hB y (by rw[q3];simp[hy]);have hsz:(strOfNums m).size=m.length:=by rw[←bys_len,bys_strOf _ hm]
 simp only at q3 q1⊢;rw[bys_strOf _ hm,hsz];exact⟨by omega,q3,hB.drop _⟩
theorem val_V{k num bits:Int}{t:ByteArray}(key:ByteArray)(r:List Int)(hF:FineV k num bits t)(hn: -9223372036854775808≤num∧num≤9223372036854775807)(hb:0≤bits∧bits<18446744073709551616):valV key (valS k num bits t++r)=some (⟨k,num,bits,key,t⟩,r):=by
 unfold valV;rw[val_num r hF hn hb];simp
theorem valV_inv{key:ByteArray}{b:List Int}(hB:Bd .u8 b){x:ActV}{r:List Int}(h:valV key b=some (x,r)):
  FineV x.vk x.num x.bits x.t∧x.key=key∧(0≤x.vk∧x.vk<256)∧(-9223372036854775808≤x.num∧x.num≤9223372036854775807)∧(0≤x.bits∧x.bits<18446744073709551616)∧b=valS x.vk x.num x.bits x.t++r∧Bd .u8 r:=by
 simp only[valV,Option.bind_eq_some_iff,Option.some.injEq,Prod.mk.injEq]at h;obtain⟨⟨k,n,c,t,u⟩,h,rfl,rfl⟩:=h;obtain⟨q1,q2,q3,q4,_,q6,_⟩:=val_inv hB h;exact⟨q1,rfl,q2,q3,q4,q6,hB.drop _⟩
def actS(k:Int)(x:ActV):List Int:=if k=1 then []else(numS x.key.size++bys x.key)++(if k=4 then valS x.vk x.num x.bits x.t else [])
theorem act_R(k:Int)(x:ActV)(r:List Int)(hF:FineAct k x.key x.vk x.num x.bits x.t)(hn: -9223372036854775808≤x.num∧x.num≤9223372036854775807)(hb:0≤x.bits∧x.bits<18446744073709551616):actR k (actS k x++r)=some (x,r):=by
 obtain⟨vk,num,bits,key,t⟩:=x;unfold actR actS;rcases hF with⟨rfl,rfl,rfl,rfl,rfl,rfl⟩|⟨hk,hK,rfl,rfl,rfl,rfl⟩|⟨rfl,hK,hV⟩
 ·simp
 ·rw[if_neg (by omega),if_neg (by omega),if_neg (by omega),List.append_nil,key_R _ _ hK.2.1];simp only[Option.bind_some];rw[if_neg (by omega)]
 ·rw[if_neg (by omega),if_neg (by omega),if_pos rfl,List.append_assoc,key_R _ _ hK.2.1];simp only[Option.bind_some,if_true];exact val_V _ _ hV hn hb
theorem actR_inv{k:Int}{b:List Int}(hB:Bd .u8 b){x:ActV}{r:List Int}(h:actR k b=some (x,r)):
  (0≤x.vk∧x.vk<256)∧(-9223372036854775808≤x.num∧x.num≤9223372036854775807)∧(0≤x.bits∧x.bits<18446744073709551616)∧b=actS k x++r∧Bd .u8 r:=by
 unfold actR at h;unfold actS;split at h
 ·rename_i hk;simp only[Option.some.injEq,Prod.mk.injEq]at h;obtain⟨rfl,rfl⟩:=h;exact⟨by decide,by decide,by decide,by rw[if_pos hk];rfl,hB⟩
 ·rename_i hk;simp only[Option.bind_eq_some_iff]at h;obtain⟨⟨s,q⟩,h1,h⟩:=h;obtain⟨p1,p2,p3⟩:=keyR_inv hB h1;rw[if_neg hk];simp only at h;split at h
  ·rename_i h4;obtain⟨_,q2,q3,q4,q5,q6,q7⟩:=valV_inv p3 h;rw[if_pos h4];refine⟨q3,q4,q5,?_,q7⟩;rw[q2,List.append_assoc,←q6,←p2]
  ·rename_i h4;simp only[Option.some.injEq,Prod.mk.injEq]at h;obtain⟨rfl,rfl⟩:=h;exact⟨⟨Int.le_refl 0,(by decide:(0:Int)<256)⟩,⟨(by decide: -9223372036854775808≤(0:Int)),(by decide:(0:Int)≤9223372036854775807)⟩,⟨Int.le_refl 0,(by decide:(0:Int)<18446744073709551616)⟩,by rw[if_neg h4,List.append_nil];exact p2,p3⟩
def OpV.act(o:OpV):ActV:=⟨o.vk,o.num,o.bits,o.key,o.t⟩
theorem enc_eq(o:OpV):encS o=111::(numS o.au++(listS o.n o.ids++(numS o.st++(o.k::(actS o.k o.act++(numS o.e++numS o.s)))))):=by
 simp only[encS,msgS,actS,OpV.act,List.append_assoc,List.cons_append,List.nil_append]
theorem oneR_inv{b:List Int}(hB:Bd .u8 b){x:Int}{r:List Int}(h:oneR b=some (x,r)):b=x::r∧(0≤x∧x<256)∧Bd .u8 r:=by
 cases b with
 |nil=>cases h
 |cons y t=>
  simp only[oneR,Option.some.injEq,Prod.mk.injEq]at h;obtain⟨rfl,rfl⟩:=h;exact⟨rfl,hB _ List.mem_cons_self,fun z hz=>hB z (List.mem_cons_of_mem _ hz)⟩
theorem dec_inv{b:List Int}(hB:Bd .u8 b){o:OpV}(h:decS b=some o):o.rng∧o.ids.length=32*o.n∧checkE o=0∧b=encS o:=by
 simp only[decS,Option.bind_eq_some_iff]at h;obtain⟨⟨x,r⟩,h1,h⟩:=h;split at h
 ·rename_i hx;simp only at hx;subst hx;simp only[Option.bind_eq_some_iff]at h;obtain⟨⟨a,r1⟩,h2,⟨n,ids,r2⟩,h3,⟨t,r3⟩,h4,⟨k,r4⟩,h5,⟨y,r5⟩,h6,⟨e,r6⟩,h7,⟨s,r7⟩,h8,h⟩:=h;dsimp only at h2 h3 h4 h5 h6 h7 h8;obtain⟨rfl,_,B1⟩:=oneR_inv hB h1;obtain⟨a1,a2,rfl,B2⟩:=numR_inv B1 h2;obtain⟨n1,n2,n3,rfl,B3⟩:=idsR_inv B2 h3;obtain⟨t1,t2,rfl,B4⟩:=numR_inv B3 h4;obtain⟨rfl,k1,B5⟩:=oneR_inv B4 h5;obtain⟨y1,y2,y3,rfl,B6⟩:=actR_inv B5 h6;obtain⟨e1,e2,rfl,B7⟩:=numR_inv B6 h7;obtain⟨s1,s2,rfl,B8⟩:=numR_inv B7 h8;simp only at h;split at h
  ·rename_i hz;obtain⟨rfl,hz⟩:=hz;simp only[Option.some.injEq]at h;subst h;obtain⟨c1,c2,c3,c4,c5,c6,c7⟩:=check_zero.1 hz;have:=(isG_bd c3).2;simp only at c5 c6 this;refine⟨⟨⟨a1,by show a<4294967296;omega⟩,⟨t1,t2⟩,k1,y1,y2,y3,⟨e1,by show e<4294967296;omega⟩,⟨s1,by show s<4294967296;omega⟩⟩,n2,hz,?_⟩;rw[enc_eq,List.append_nil];rfl
  ·cases h
 ·cases h
def numB(most:Int)(bad:Bool)(b:List Int):Int×Bool×List Int:=
 match numR b with
 |some x=>(x.1,bad||decide (most<x.1),x.2)
 |none=>(0,true,b)
def oneB(bad:Bool)(b:List Int):Int×Bool×List Int:=
 if bad then(0,true,b)else match b with
 |[]=>(0,true,[])
 |x::t=>(x,false,t)
def idsB(bad:Bool)(b:List Int):Nat×List Int×Bool×List Int:=
 match idsR b with
 |some x=>(x.1,x.2.1,bad,x.2.2)
 |none=>(0,[],true,b)
def keyB(bad:Bool)(b:List Int):ByteArray×Bool×List Int:=
 match keyR b with
 |some x=>(x.1,bad,x.2)
 |none=>(.empty,true,b)
def valB(key:ByteArray)(bad:Bool)(b:List Int):ActV×Bool×List Int:=
 match valV key b with
 |some x=>(x.1,bad,x.2)
 |none=>(⟨0,0,0,key, .empty⟩,true,b)
def actB(k:Int)(bad:Bool)(b:List Int):ActV×Bool×List Int:=
 if k=1 then(⟨0,0,0, .empty, .empty⟩,bad,b)
 else if k=4 then valB (keyB bad b).1 (keyB bad b).2.1 (keyB bad b).2.2
 else(⟨0,0,0,(keyB bad b).1, .empty⟩,(keyB bad b).2.1,(keyB bad b).2.2)
theorem numB_ok{m:Int}{bad:Bool}{b:List Int}(h:(numB m bad b).2.1=false):bad=false∧numR b=some ((numB m bad b).1,(numB m bad b).2.2)∧(numB m bad b).1≤m:=by
 unfold numB at*;cases hn:numR b with
 |none=>rw[hn]at h;cases h
 |some x=>
  rw[hn]at h;simp only[Bool.or_eq_false_iff,decide_eq_false_iff_not]at h⊢;exact⟨h.1,trivial,by omega⟩
theorem oneB_ok{bad:Bool}{b:List Int}(h:(oneB bad b).2.1=false):bad=false∧oneR b=some ((oneB bad b).1,(oneB bad b).2.2):=by
 unfold oneB oneR at*;cases bad with
 |true=>simp at h
 |false=>
  cases b with
  |nil=>simp at h
  |cons x t=>exact⟨rfl,rfl⟩
theorem idsB_ok{bad:Bool}{b:List Int}(h:(idsB bad b).2.2.1=false):bad=false∧idsR b=some ((idsB bad b).1,(idsB bad b).2.1,(idsB bad b).2.2.2):=by
 unfold idsB at*;cases hn:idsR b with
 |none=>rw[hn]at h;cases h
 |some x=>rw[hn]at h;exact⟨h,rfl⟩
theorem keyB_ok{bad:Bool}{b:List Int}(h:(keyB bad b).2.1=false):bad=false∧keyR b=some ((keyB bad b).1,(keyB bad b).2.2):=by
 unfold keyB at*;cases hn:keyR b with
 |none=>rw[hn]at h;cases h
 |some x=>rw[hn]at h;exact⟨h,rfl⟩
theorem valB_ok{key:ByteArray}{bad:Bool}{b:List Int}(h:(valB key bad b).2.1=false):bad=false∧valV key b=some ((valB key bad b).1,(valB key bad b).2.2):=by
 unfold valB at*;cases hn:valV key b with
 |none=>rw[hn]at h;cases h
 |some x=>rw[hn]at h;exact⟨h,rfl⟩
theorem actB_ok{k:Int}{bad:Bool}{b:List Int}(h:(actB k bad b).2.1=false):bad=false∧actR k b=some ((actB k bad b).1,(actB k bad b).2.2):=by
 unfold actB at*;unfold actR;by_cases h1:k=1
 ·simp only[if_pos h1]at h⊢;exact⟨h,trivial⟩
 ·simp only[if_neg h1]at h⊢;by_cases h4:k=4
  ·simp only[if_pos h4]at h⊢;obtain⟨q1,q2⟩:=valB_ok h;obtain⟨q3,q4⟩:=keyB_ok q1;rw[q4];exact⟨q3,q2⟩
  ·simp only[if_neg h4]at h⊢;obtain⟨q3,q4⟩:=keyB_ok h;rw[q4];exact⟨q3,rfl⟩
theorem numB_num(m n:Int)(h0:0≤n)(h1:n<18446744073709551616)(hm:n≤m)(r:List Int):numB m false (numS n++r)=(n,false,r):=by
 unfold numB;rw[num_R n h0 h1];simp[hm]
theorem actB_act{k:Int}{x:ActV}{b r:List Int}(h:actR k b=some (x,r)):actB k false b=(x,false,r):=by
 unfold actR at h;unfold actB;split at h
 ·rename_i h1;rw[if_pos h1];simp only[Option.some.injEq,Prod.mk.injEq]at h;rw[h.1,h.2]
 ·rename_i h1;rw[if_neg h1];simp only[Option.bind_eq_some_iff]at h;obtain⟨⟨s,q⟩,h2,h⟩:=h;have e:keyB false b=(s,false,q):=by unfold keyB;rw[h2]
  rw[e];simp only at h⊢;split at h
  ·rename_i h4;rw[if_pos h4];unfold valB;rw[h]
  ·rename_i h4;rw[if_neg h4];simp only[Option.some.injEq,Prod.mk.injEq]at h;rw[h.1,h.2]
structure Steps(b:List Int) where
 (h:Int×Bool×List Int)(a:Int×Bool×List Int)(l:Nat×List Int×Bool×List Int)(t k:Int×Bool×List Int)(x:ActV×Bool×List Int)(e s:Int×Bool×List Int)
 eh:h=oneB false b
 ea:a=numB 1000000007 h.2.1 h.2.2
 el:l=idsB a.2.1 a.2.2
 et:t=numB 1000000000000 l.2.2.1 l.2.2.2
 ek:k=oneB t.2.1 t.2.2
 ex:x=actB k.1 k.2.1 k.2.2
 ee:e=numB 500000003 x.2.1 x.2.2
 es:s=numB 500000003 e.2.1 e.2.2
def Steps.op{b:List Int}(p:Steps b):OpV:=⟨p.a.1 % 4294967296,p.t.1,p.k.1,p.x.1.vk,p.x.1.num,p.x.1.bits,p.e.1 % 4294967296,p.s.1 % 4294967296,p.l.1,p.l.2.1,p.x.1.key,p.x.1.t⟩
theorem Steps.good{b:List Int}(hB:Bd .u8 b)(p:Steps b)(h0:p.h.1=111)(h1:p.s.2.1=false)(h2:p.s.2.2=[])(h3:checkE p.op=0):decS b=some p.op:=by
 obtain⟨h,a,l,t,k,x,e,s,eh,ea,el,et,ek,ex,ee,es⟩:=p;simp only[Steps.op]at*;subst es;obtain⟨b7,r7,m7⟩:=numB_ok h1;subst ee;obtain⟨b6,r6,m6⟩:=numB_ok b7;subst ex;obtain⟨b5,r5⟩:=actB_ok b6;subst ek;obtain⟨b4,r4⟩:=oneB_ok b5;subst et;obtain⟨b3,r3,m3⟩:=numB_ok b4;subst el;obtain⟨b2,r2⟩:=idsB_ok b3;subst ea;obtain⟨b1,r1,m1⟩:=numB_ok b2;subst eh;obtain⟨_,r0⟩:=oneB_ok b1;obtain⟨_,_,B1⟩:=oneR_inv hB r0;obtain⟨z1,_,_,B2⟩:=numR_inv B1 r1;obtain⟨_,_,_,_,B3⟩:=idsR_inv B2 r2;obtain⟨_,_,_,B4⟩:=numR_inv B3 r3;obtain⟨_,_,B5⟩:=oneR_inv B4 r4;obtain⟨_,_,_,_,B6⟩:=actR_inv B5 r5;obtain⟨z6,_,_,B7⟩:=numR_inv B6 r6;obtain⟨z7,_,_,_⟩:=numR_inv B7 r7;rw[Int.emod_eq_of_lt z1 (by omega),Int.emod_eq_of_lt z6 (by omega),Int.emod_eq_of_lt z7 (by omega)]at h3⊢;unfold decS;simp only[r0,Option.bind_some,h0,if_true,r1,r2,r3,r4,r5,r6,r7,h2,h3,and_self]
theorem Steps.bad{b:List Int}(hB:Bd .u8 b)(p:Steps b){o:OpV}(hd:decS b=some o):p.h.1=111∧p.s.2.1=false∧p.s.2.2=[]∧checkE p.op=0:=by
 obtain⟨q1,q2,q3,rfl⟩:=dec_inv hB hd;obtain⟨c1,c2,c3⟩:=check_zero.1 q3;obtain⟨h,a,l,t,k,x,e,s,eh,ea,el,et,ek,ex,ee,es⟩:=p;have g1:=(isG_bd c3.1).2;have g2:=q1.au;have g3:=q1.e;have g4:=q1.s;have g5:=c3.2.2.1;have g6:=c3.2.2.2.1;rw[enc_eq]at eh;have eh':h=(111,false,numS o.au++(listS o.n o.ids++(numS o.st++(o.k::(actS o.k o.act++(numS o.e++numS o.s)))))):=eh;subst eh';have ea':=ea.trans (numB_num 1000000007 o.au g2.1 (by omega) (by omega) _);subst ea';have el':l=(o.n,o.ids,false,numS o.st++(o.k::(actS o.k o.act++(numS o.e++numS o.s)))):=by
  rw[el];unfold idsB;simp only;rw[ids_R _ _ _ c1 q2 c2]
 subst el';have et':=et.trans (numB_num 1000000000000 o.st q1.st.1 q1.st.2 c3.2.1 _);subst et';have ek':k=(o.k,false,actS o.k o.act++(numS o.e++numS o.s)):=ek;subst ek';have ex':=ex.trans (actB_act (act_R o.k o.act _ c3.2.2.2.2 q1.num q1.bits));subst ex';have ee':=ee.trans (numB_num 500000003 o.e g3.1 (by omega) (by omega) _);subst ee'
 have es' := es.trans (by
  show _ = (o.s, false, [])
  have := numB_num 500000003 o.s g4.1 (by omega) (by omega) []
  rw [List.append_nil] at this
  exact this)
 subst es';refine⟨rfl,rfl,rfl,?_⟩;simp only[Steps.op];rw[Int.emod_eq_of_lt g2.1 g2.2,Int.emod_eq_of_lt g3.1 g3.2,Int.emod_eq_of_lt g4.1 g4.2];exact q3
def rdV(b:List Int):Int:=match readN b with|some r=>r.1|none=>0
def rdU(b:List Int):Nat:=match readN b with|some r=>r.2|none=>0
def rdE(b:List Int):Int:=match readN b with|some _=>0|none=>12
theorem rd_none{b:List Int}(h:readN b=none):rdV b=0∧rdU b=0∧rdE b=12:=by unfold rdV rdU rdE;rw[h];exact⟨rfl,rfl,rfl⟩
theorem rd_some{b:List Int}{n:Int}{u:Nat}(h:readN b=some (n,u)):rdV b=n∧rdU b=u∧rdE b=0:=by unfold rdV rdU rdE;rw[h];exact⟨rfl,rfl,rfl⟩
theorem rd_zero{b:List Int}(h:rdE b=0):readN b=some (rdV b,rdU b):=by
 unfold rdE at h;split at h
 ·rename_i r hr;unfold rdV rdU;rw[hr]
 ·cases h
theorem rd_bad{b:List Int}(h:rdE b≠0):readN b=none:=by
 unfold rdE at h;split at h
 ·exact absurd rfl h
 ·assumption
theorem rd_bd{b:List Int}(hB:Bd .u8 b):(0≤rdV b∧rdV b<18446744073709551616)∧rdU b≤b.length∧rdU b≤9∧(rdE b=0∨rdE b=12):=by
 unfold rdV rdU rdE;cases h:readN b with
 |none=>simp
 |some r=>
  obtain⟨n,u⟩:=r;obtain⟨q1,q2,q3,_,q5⟩:=read_inv hB h;have:=numS_len n;simp only;exact⟨⟨q1,q2⟩,q3,by omega, .inl trivial⟩
theorem readN_none{b:List Int}(h:b.length=0∨(247<b.getD 0 0∧((b.length:Int)≤b.getD 0 0 - 247∨b.getD 1 0=0∨(b.getD 0 0 - 247=1∧b.getD 1 0≤247)))):readN b=none:=by
 cases b with
 |nil=>rfl
 |cons x t=>
  simp only[List.length_cons,List.getD_cons_zero,List.getD_cons_succ]at h;unfold readN;simp only;rw[if_neg (by omega),if_pos (by omega)]
theorem readN_one{b:List Int}(h0:b.length≠0)(h:b.getD 0 0≤247):readN b=some (b.getD 0 0,1):=by
 cases b with
 |nil=>exact absurd rfl h0
 |cons x t=>
  simp only[List.getD_cons_zero]at h⊢;unfold readN;simp only;rw[if_pos h]
theorem readN_many{b:List Int}{k:Int}{i:Nat}{v:Int}(h0:b.length≠0)(hk:k=b.getD 0 0 - 247)(h1:0<k)(h2:¬(b.length:Int)≤k)(h3:b.getD 1 0≠0)(h4:¬(k=1∧b.getD 1 0≤247))(hi:i=k.toNat)(hv:v=be (((b.drop 1).take k.toNat).take i)):readN b=some (v,(k+1).toNat):=by
 cases b with
 |nil=>exact absurd rfl h0
 |cons x t=>
  simp only[List.length_cons,List.getD_cons_zero,List.getD_cons_succ,List.drop_succ_cons,List.drop_zero]at*;unfold readN;simp only;rw[if_neg (by omega),if_neg (by omega),hv,hi,List.take_take,Nat.min_self,hk,show(x - 247+1).toNat=(x - 247).toNat+1 by omega]
theorem be_next(xs:List Int)(i:Nat)(hB:Bd .u8 xs)(hi:i<8)(hl:i<xs.length):ior (be (xs.take i)*2 ^ (8:Int).toNat % 18446744073709551616) (xs.getD i 0)=be (xs.take (i+1)):=by
 have hb:=be_bd _ (hB.take i);have hx:=hB.get i;simp only[lim]at hx;have hp:(256:Int) ^ (xs.take i).length≤256 ^ 7:=pow256 (by simp;omega);have h256:(256:Int) ^ 7=72057594037927936:=by decide
 have h8:(2:Int) ^ (8:Int).toNat=256:=by decide
 rw[take_snoc xs i hl,be_snoc,h8,Int.emod_eq_of_lt (by omega) (by omega)];exact ior_add _ _ hb.1 hx
def ptOk(most wd:Nat)(b:List Int):Prop:=rdE b=0∧rdV b≤most∧rdV b≤((b.length:Int) - rdU b) / wd
instance(most wd:Nat)(b:List Int):Decidable (ptOk most wd b):=by unfold ptOk;infer_instance
def ptE(most wd:Nat)(b:List Int):Int:=if ptOk most wd b then 0 else 12
def ptU(most wd:Nat)(b:List Int):Nat:=if ptOk most wd b then rdU b+wd*(rdV b).toNat else 0
def ptS(most wd:Nat)(b:List Int):List Int:=if ptOk most wd b then(b.drop (rdU b)).take (wd*(rdV b).toNat)else []
theorem ptE_zero{most wd:Nat}{b:List Int}:ptE most wd b=0↔ptOk most wd b:=by unfold ptE;split<;>simp_all
theorem pt_ok{most wd:Nat}{b:List Int}(h:ptOk most wd b):ptE most wd b=0∧ptU most wd b=rdU b+wd*(rdV b).toNat∧ptS most wd b=(b.drop (rdU b)).take (wd*(rdV b).toNat):=by unfold ptE ptU ptS;rw[if_pos h,if_pos h,if_pos h];exact⟨rfl,rfl,rfl⟩
theorem pt_not{most wd:Nat}{b:List Int}(h:¬ptOk most wd b):ptE most wd b=12∧ptU most wd b=0∧ptS most wd b=[]:=by unfold ptE ptU ptS;rw[if_neg h,if_neg h,if_neg h];exact⟨rfl,rfl,rfl⟩
theorem pt_mul{most wd:Nat}{b:List Int}(hB:Bd .u8 b)(h:ptOk most wd b)(hw:0<wd):wd*(rdV b).toNat+rdU b≤b.length:=by
 obtain⟨_,_,h3⟩:=h;obtain⟨h4,h5,_⟩:=rd_bd hB;have h6:=(Int.le_ediv_iff_mul_le (show(0:Int)<wd by omega)).1 h3;have h7:((wd*(rdV b).toNat:Nat):Int)=rdV b*wd:=by rw[Int.natCast_mul,Int.toNat_of_nonneg h4.1,Int.mul_comm]
 omega
theorem ptS_len{most wd:Nat}{b:List Int}(hB:Bd .u8 b)(h:ptOk most wd b)(hw:0<wd):(ptS most wd b).length=wd*(rdV b).toNat:=by
 have:=pt_mul hB h hw;rw[(pt_ok h).2.2,List.length_take,List.length_drop];omega
theorem readB_pt(most:Nat)(b:List Int):readB most b=if ptE most 1 b=0 then some (ptS most 1 b,ptU most 1 b)else none:=by
 by_cases h:ptOk most 1 b
 ·obtain⟨h1,h2,h3⟩:=h;rw[if_pos (ptE_zero.2 ⟨h1,h2,h3⟩),(pt_ok ⟨h1,h2,h3⟩).2.1,(pt_ok ⟨h1,h2,h3⟩).2.2];unfold readB;rw[rd_zero h1];simp only;rw[if_pos (by omega),Nat.one_mul]
 ·rw[if_neg (fun e=>h (ptE_zero.1 e))];unfold readB;split
  ·rename_i n u hr;obtain⟨q1,q2,q3⟩:=rd_some hr;rw[if_neg];intro hc;exact h ⟨q3,by omega,by rw[q1,q2];simp;omega⟩
  ·rfl
theorem readI_pt(most:Nat)(b:List Int)(hB:Bd .u8 b):readI most b=if ptE most 32 b=0∧Rising ((ptS most 32 b).length / 32) (ptS most 32 b)then some ((ptS most 32 b).length / 32,ptS most 32 b,ptU most 32 b)else none:=by
 by_cases h:ptOk most 32 b
 ·have hl:=ptS_len hB h (by decide);have hb:=(rd_bd hB).1;obtain⟨h1,h2,h3⟩:=h;have hq:=pt_ok ⟨h1,h2,h3⟩;have hd:(ptS most 32 b).length / 32=(rdV b).toNat:=by rw[hl];omega
  rw[hd,hq.2.2,hq.2.1];unfold readI;rw[rd_zero h1];simp only;have e:(rdV b≤(most:Int)∧rdV b≤((b.length:Int) - (rdU b:Int)) / 32∧Rising (rdV b).toNat ((b.drop (rdU b)).take (32*(rdV b).toNat)))↔(ptE most 32 b=0∧Rising (rdV b).toNat ((b.drop (rdU b)).take (32*(rdV b).toNat))):=
   ⟨fun h=>⟨hq.1,h.2.2⟩,fun h=>⟨h2,h3,h.2⟩⟩
  simp only[e]
 ·rw[if_neg (fun e=>h (ptE_zero.1 e.1))];unfold readI;split
  ·rename_i n u hr;obtain⟨q1,q2,q3⟩:=rd_some hr;rw[if_neg];intro hc;exact h ⟨q3,by omega,by rw[q1,q2];exact hc.2.1⟩
  ·rfl
def idN(most:Nat)(b:List Int):Nat:=match readI most b with|some r=>r.1|none=>0
def idL(most:Nat)(b:List Int):List Int:=match readI most b with|some r=>r.2.1|none=>[]
def idU(most:Nat)(b:List Int):Nat:=match readI most b with|some r=>r.2.2|none=>0
def idE(most:Nat)(b:List Int):Int:=match readI most b with|some _=>0|none=>12
theorem id_none{most:Nat}{b:List Int}(h:readI most b=none):idN most b=0∧idL most b=[]∧idU most b=0∧idE most b=12:=by unfold idN idL idU idE;rw[h];exact⟨rfl,rfl,rfl,rfl⟩
theorem id_some{most:Nat}{b:List Int}{n:Nat}{l:List Int}{u:Nat}(h:readI most b=some (n,l,u)):idN most b=n∧idL most b=l∧idU most b=u∧idE most b=0:=by unfold idN idL idU idE;rw[h];exact⟨rfl,rfl,rfl,rfl⟩
structure ValO where
 (k num bits:Int)(t:ByteArray)(u:Nat)(e:Int)
def vdS(b:List Int):ValO:=match valD b with|some r=>⟨r.1,r.2.1,r.2.2.1,r.2.2.2.1,r.2.2.2.2,0⟩|none=>⟨0,0,0, .empty,0,12⟩
theorem vd_none{b:List Int}(h:valD b=none):vdS b=⟨0,0,0, .empty,0,12⟩:=by unfold vdS;rw[h]
theorem vd_some{b:List Int}{k num bits:Int}{t:ByteArray}{u:Nat}(h:valD b=some (k,num,bits,t,u)):vdS b=⟨k,num,bits,t,u,0⟩:=by unfold vdS;rw[h]
def decO(b:List Int):OpV:=(decS b).getD OpV.zero
def decE(b:List Int):Int:=if(decS b).isSome then 0 else 12
theorem dec_none{b:List Int}(h:decS b=none):decO b=OpV.zero∧decE b=12:=by unfold decO decE;rw[h];exact⟨rfl,rfl⟩
theorem dec_some{b:List Int}{o:OpV}(h:decS b=some o):decO b=o∧decE b=0:=by unfold decO decE;rw[h];exact⟨rfl,rfl⟩
theorem dec_zero{b:List Int}(h:decE b=0):decS b=some (decO b):=by
 unfold decE at h;unfold decO;cases hd:decS b with
 |none=>rw[hd]at h;cases h
 |some o=>rfl
theorem dec_ne{b:List Int}(h:decE b≠0):decS b=none∧decE b=12:=by
 unfold decE at h⊢;cases hd:decS b with
 |none=>exact⟨rfl,rfl⟩
 |some o=>rw[hd]at h;exact absurd rfl h
theorem ptS_le(most wd:Nat)(b:List Int):(ptS most wd b).length≤b.length:=by
 unfold ptS;split
 ·rw[List.length_take,List.length_drop];omega
 ·simp
theorem pt_mulI{wd:Nat}{b:List Int}(hB:Bd .u8 b):(wd:Int)*rdV b=((wd*(rdV b).toNat:Nat):Int):=by
 rw[Int.natCast_mul,Int.toNat_of_nonneg (rd_bd hB).1.1]
theorem div_bd(a b:Int)(ha:0≤a)(hb:0<b):0≤a / b∧a / b≤a:=⟨Int.ediv_nonneg ha (by omega),Int.ediv_le_self b ha⟩
theorem copy_step(l:List Int)(i m:Nat)(h:l.length=32*m)(hi:i<m):(l.take (32*i)++List.replicate (32*(m - i)) 0).take (0+i*32)++(l.drop (32*i)).take 32++(l.take (32*i)++List.replicate (32*(m - i)) 0).drop (0+i*32+32)=l.take (32*(i+1))++List.replicate (32*(m - (i+1))) 0:=by
 have hl:(l.take (32*i)).length=32*i:=by rw[List.length_take];omega
 rw[show 0+i*32=32*i by omega,List.take_append_of_le_length (by omega),List.take_of_length_le (by omega),Nat.mul_add,Nat.mul_one,List.take_add];congr 1;rw[List.drop_append,List.drop_of_length_le (by omega),List.nil_append,hl,List.drop_replicate];congr 1;omega
theorem half_bd(n:Int)(h:0≤n∧n<18446744073709551616):(0≤n / 2 ^ (1:Int).toNat∧n / 2 ^ (1:Int).toNat≤9223372036854775807)∧0≤iand n 1∧iand n 1≤1:=by
 have h2:(2:Int) ^ (1:Int).toNat=2:=by decide
 have ha:iand n 1=n % 2:=by
  unfold iand;rw[show(1:Int).toNat=1 from rfl,Nat.and_one_is_mod];omega
 rw[h2,ha];omega
theorem ptS_bd(most wd:Nat)(b:List Int)(hB:Bd .u8 b):Bd .u8 (ptS most wd b):=by
 unfold ptS;split
 ·exact(hB.drop _).take _
 ·exact Bd.nil _
theorem unzig_sxor(n:Int)(h:0≤n∧n<18446744073709551616):sxor .i64 (n / 2 ^ (1:Int).toNat) (0 - iand n 1)=unzig n:=by
 have h2:(2:Int) ^ (1:Int).toNat=2:=by decide
 have ha:iand n 1=n % 2:=by
  unfold iand;rw[show(1:Int).toNat=1 from rfl,Nat.and_one_is_mod];omega
 obtain⟨a,hn⟩:∃a:Nat,n / 2=a:=⟨(n / 2).toNat,by omega⟩
 rw[h2,ha,hn];have e1:(BitVec.ofInt 64 (a:Int)).toNat=a:=ofInt_toNat 64 a (by omega) (by omega);unfold unzig;by_cases hm:n % 2=0
 ·rw[if_pos hm,hm,show(0:Int) - 0=0 from rfl];have e2:(BitVec.ofInt 64 (a:Int) ^^^ BitVec.ofInt 64 0).toNat=a:=by rw[show BitVec.ofInt 64 0=0#64 by decide,BitVec.xor_zero,e1]
  show IntKind.i64.wrap ((BitVec.ofInt 64 (a:Int) ^^^ BitVec.ofInt 64 0).toNat:Nat)=n / 2;rw[e2,W.i64 (by omega),hn]
 ·rw[if_neg hm,show n % 2=1 by omega,show(0:Int) - 1= -1 from rfl];have e2:(BitVec.ofInt 64 (a:Int) ^^^ BitVec.ofInt 64 (-1)).toNat=2 ^ 64 - 1 - a:=by rw[show BitVec.ofInt 64 (-1)=BitVec.allOnes 64 by decide,BitVec.xor_allOnes,BitVec.toNat_not,e1]
  show IntKind.i64.wrap ((BitVec.ofInt 64 (a:Int) ^^^ BitVec.ofInt 64 (-1)).toNat:Nat)= - (n / 2) - 1;rw[e2,hn];have e3:(((2 ^ 64 - 1 - a:Nat)):Int) % 18446744073709551616=18446744073709551615 - a:=by omega
  show(if IntKind.i64.signed&&decide ((((2 ^ 64 - 1 - a:Nat)):Int) % 18446744073709551616≥9223372036854775808)then(((2 ^ 64 - 1 - a:Nat)):Int) % 18446744073709551616 - 18446744073709551616 else(((2 ^ 64 - 1 - a:Nat)):Int) % 18446744073709551616)= - (a:Int) - 1;rw[e3,if_pos (by simp[IntKind.signed];omega)];omega
end S
namespace W
open Go.RowKit G
set_option maxRecDepth 20000
set_option maxHeartbeats 8000000
attribute [local irreducible] RS RX
theorem E213:Enters prog 213:= .mk func213 (by kernel_rfl) rfl
theorem E214:Enters prog 214:= .mk func214 (by kernel_rfl) rfl
theorem E215:Enters prog 215:= .mk func215 (by kernel_rfl) rfl
theorem readN{S0:Nat→Prop}(a:Option Addr)(n c:Nat)(bs:List Int)(w:World)(R0:IRow .u8 S0 w a n bs)(hc:n≤c)(hn:n≤1000000):
  Calls prog 213 #[.slice a n c] w (Ret w fun v _=>v= .tuple #[.int .u64 (S.rdV bs), .int .i64 (S.rdU bs), .int .i64 (S.rdE bs)]):=by
 have hbl:=R0.len;have hbd:=R0.bd;refine eE 62 func213 rfl rfl fun hE=>?_
 refine sq fun _ J1=>RS.asI rfl (RS.asI rfl (RS.asI rfl (nl J1 (wx fun _ J2=>sq fun _ J3=>RS.mvS rfl ?_))));refine RS.ln V42 ?_;refine RS.oq ?_;refine nl J3 ?_;refine C.ife rfl (fun c4=>?_) (fun c4=>?_)
 ·refine sq fun _ J5=>RS.asI rfl (RS.asI rfl (RS.asI rfl (nl J5 (wp_ret ?_))));refine retIII ?_;obtain⟨e1,e2,e3⟩:=S.rd_none (S.readN_none (b:=bs) (by omega));rw[e1,e2,e3];exact⟨_,rfl,hE,rfl⟩
 refine wp_skip (J2 _ _ (wx fun _ J6=>sq fun _ J7=>RS.mvS rfl ?_));refine RS.idx R0 rfl rfl V42 C5 (by omega) (fun b8 o8 v8 h8 q8 r8=>?_);refine RS.nm ?_;simp only[lim]at r8;replace q8:v8=bs.getD 0 0:=q8;have q1:=q8;refine RS.o (D.load rfl V5 rfl (h8)) ?_;refine RS.o (D.le rfl rfl) ?_;refine nl J7 (C.ifd rfl (fun c9=>?_) (fun c9=>?_))
 ·refine sq fun _ J10=>RS.mvS rfl ?_;refine RS.idx R0 rfl rfl V42 C5 (by omega) (fun b11 o11 v11 h11 q11 r11=>?_);refine RS.nm ?_;simp only[lim]at r11;replace q11:v11=bs.getD 0 0:=q11;have q2:=q11;refine RS.o (D.load rfl V5 rfl (h11)) ?_;refine RS.o (D.conv rfl V5 V26 (by first|exact W.u64 (by omega)|exact W.u64m _)) ?_;refine RS.asI rfl (RS.asI rfl (RS.asI rfl (nl J10 (wp_ret ?_))));refine retIII ?_;obtain⟨e1,e2,e3⟩:=S.rd_some (S.readN_one (b:=bs) (by omega) (by omega));rw[e1,e2,e3,←q2];exact⟨_,rfl,hE,rfl⟩
 refine wp_skip (J6 _ _ (sq fun _ J12=>RS.mvS rfl ?_));refine RS.idx R0 rfl rfl V42 C5 (by omega) (fun b13 o13 v13 h13 q13 r13=>?_);refine RS.nm ?_;simp only[lim]at r13;replace q13:v13=bs.getD 0 0:=q13;have q3:=q13;obtain⟨k,hk⟩:∃k:Int,k=v13 - 247:=⟨_,rfl⟩
 refine RS.o (D.load rfl V5 rfl (h13)) ?_;refine RS.o (D.conv rfl V5 V3 (W.i64 (by omega))) ?_;refine RS.o (D.sub rfl rfl (W.i64 (by omega))) ?_;refine RS.asI rfl (nl J12 (wx fun _ J14=>wx fun _ J15=>?_));rw[←hk];refine region (RS.mvS rfl ?_);refine RS.ln V42 ?_;refine RS.mvI rfl ?_;refine RS.o (D.le rfl rfl) ?_;refine RS.mvB rfl ?_;refine RS.splitd 29 rfl rfl (fun c16=>?_) (fun c16=>?_)
 ·refine RS.nm ?_;refine RS.skT 29 ?_;refine RS.skT 29 ?_;refine RS.skT 29 ?_;refine RS.skT 29 ?_;refine RS.pkt ?_;refine RS.mvB rfl ?_;refine RS.skT 35 ?_;refine RS.skT 35 ?_;refine RS.skT 35 ?_;refine RS.skipU 38 rfl rfl rfl ?_;refine RS.norm (by dsimp only[putL,List.set]) ?_;refine RS.skipU 38 rfl rfl rfl ?_;refine RS.norm (by dsimp only[putL,List.set]) ?_;refine RS.skipU 38 rfl rfl rfl ?_;refine RS.norm (by dsimp only[putL,List.set]) ?_;refine RS.skipU 38 rfl rfl rfl ?_;refine RS.norm (by dsimp only[putL,List.set]) ?_;refine RS.skT 35 ?_;refine RS.pkt ?_;refine nl J15 ?_;refine C.ift rfl ?_;refine sq fun _ J17=>RS.asI rfl (RS.asI rfl (RS.asI rfl (nl J17 (wp_ret ?_))));refine retIII ?_;obtain⟨e1,e2,e3⟩:=S.rd_none (S.readN_none (b:=bs) (by omega));rw[e1,e2,e3];exact⟨_,rfl,hE,rfl⟩
 refine RS.nm ?_;refine RS.wt 29 ?_;refine RS.mvS rfl ?_;refine RS.wt 29 ?_;refine RS.idx R0 rfl rfl V42 C5 (by omega) (fun b18 o18 v18 h18 q18 r18=>?_);refine RS.nm ?_;simp only[lim]at r18;replace q18:v18=bs.getD 1 0:=q18;have q4:=q18;refine RS.wt 29 ?_;refine RS.o (D.load rfl V5 rfl (h18)) ?_;refine RS.wt 29 ?_;refine RS.oq ?_;refine RS.pk ?_;refine RS.mvB rfl ?_;refine RS.splite 35 rfl rfl (fun c19=>?_) (fun c19=>?_)
 ·refine RS.nm ?_;refine RS.skT 35 ?_;refine RS.skT 35 ?_;refine RS.skT 35 ?_;refine RS.skipU 38 rfl rfl rfl ?_;refine RS.norm (by dsimp only[putL,List.set]) ?_;refine RS.skipU 38 rfl rfl rfl ?_;refine RS.norm (by dsimp only[putL,List.set]) ?_;refine RS.skipU 38 rfl rfl rfl ?_;refine RS.norm (by dsimp only[putL,List.set]) ?_;refine RS.skipU 38 rfl rfl rfl ?_;refine RS.norm (by dsimp only[putL,List.set]) ?_;refine RS.skT 35 ?_;refine RS.pkt ?_;refine nl J15 ?_;refine C.ift rfl ?_;refine sq fun _ J20=>RS.asI rfl (RS.asI rfl (RS.asI rfl (nl J20 (wp_ret ?_))));refine retIII ?_;obtain⟨e1,e2,e3⟩:=S.rd_none (S.readN_none (b:=bs) (by omega));rw[e1,e2,e3];exact⟨_,rfl,hE,rfl⟩
 refine RS.nm ?_;refine RS.wt 35 ?_;refine RS.mvI rfl ?_;refine RS.wt 35 ?_;refine RS.oq ?_;refine RS.wt 35 ?_;refine RS.mvB rfl ?_;refine RS.splite 38 rfl rfl (fun c21=>?_) (fun c21=>?_)
 ·refine RS.nm ?_;refine RS.wt 38 ?_;refine RS.mvS rfl ?_;refine RS.wt 38 ?_;refine RS.idx R0 rfl rfl V42 C5 (by omega) (fun b22 o22 v22 h22 q22 r22=>?_);refine RS.nm ?_;simp only[lim]at r22;replace q22:v22=bs.getD 1 0:=q22;have q5:=q22;refine RS.wt 38 ?_;refine RS.o (D.load rfl V5 rfl (h22)) ?_;refine RS.wt 38 ?_;refine RS.o (D.le rfl rfl) ?_;refine RS.wt 35 ?_;refine RS.pk ?_;refine RS.pk ?_;refine nl J15 (C.ifd rfl (fun c23=>?_) (fun c23=>?_))
  ·refine sq fun _ J24=>RS.asI rfl (RS.asI rfl (RS.asI rfl (nl J24 (wp_ret ?_))));refine retIII ?_;obtain⟨e1,e2,e3⟩:=S.rd_none (S.readN_none (b:=bs) (by omega));rw[e1,e2,e3];exact⟨_,rfl,hE,rfl⟩
  refine wp_skip (J14 _ _ (wx fun _ J25=>?_));have QR:=R0.sub 1 (k+1).toNat c (by omega) (by omega) (by omega);have hQb:=QR.bd;have hQl:=QR.len;have em:(k+1).toNat - 1=k.toNat:=by omega
  refine region (RS.asI rfl (nl J25 (wx fun _ J26=>sq fun _ J27=>RS.mvS rfl (RS.mvI rfl ?_))));refine RS.adi ?_;refine RS.o (D.slice (kl:= .i64) (kh:= .i64) rfl V42 C5 (by decide) rfl rfl (by omega) (by omega)) ?_;refine RS.ln V42 ?_;refine RS.mvI rfl (nl J27 (wp_block ?_));refine C.loop (A:=Int×Int) (fun p=>[(6, .int .u64 p.2),(50, .int .i64 p.1)]) [8,51,52,53,54,55,56,57,58,59] (fun p w'=>Ext w w'∧((0≤p.1∧p.1≤((k+1).toNat - 1:Nat))∧p.2=S.be (((bs.drop 1).take ((k+1).toNat - 1)).take p.1.toNat))) (fun p=>(((k+1).toNat - 1) - p.1.toNat)) (0,0) (by kernel_rfl) ?_ ?_
  ·exact⟨Ext.refl _,⟨by dsimp only;omega,by dsimp only;omega⟩,rfl⟩
  rintro p j w28 ⟨x28,hI⟩;have zw28:=x28.size;obtain⟨i,r⟩:=p;dsimp only at hI;obtain⟨g1,g2⟩:=hI;have g3:=S.be8_lt ((bs.drop 1).take ((k+1).toNat - 1)) i.toNat hQb (by omega);rw[←g2]at g3;refine C.nmU ?_;refine sq fun _ J29=>?_
  refine RS.ol ?_;refine nl J29 (wx fun _ J30=>C.ifd rfl (fun c31=>?_) (fun c31=>?_))
  ·refine wp_skip (J30 _ _ (wx fun _ J32=>wp_block (sq fun _ J33=>?_)));replace QR:=QR.ext x28;refine RS.idx QR rfl rfl V42 C5 (by omega) (fun b34 o34 v34 h34 q34 r34=>?_);refine RS.nm ?_;simp only[lim]at r34;have q6:=q34;refine RS.o (D.load rfl V5 rfl (h34)) ?_;refine RS.asI rfl (nl J33 (region (RS.mvI rfl ?_)));refine RS.o (D.shl rfl rfl (by constructor<;>(try simp only[IntKind.bits])<;>omega) (by first|exact W.u64 (by omega)|exact W.u64m _)) ?_;refine RS.mvI rfl ?_;refine RS.o (D.conv rfl V5 V26 (by first|exact W.u64 (by omega)|exact W.u64m _)) ?_;refine RS.ob (D.bor_u64 rfl rfl (by omega) (by omega)) (fun z35=>?_);refine RS.asI rfl (nl J32 (region ?_));refine RS.adi ?_;refine RS.mvI rfl (RS.nil ?_);change Nx _ _ _ _ _ _ _ _;refine C.next (i+1,_) ⟨rfl,rfl,trivial⟩ (by kernel_rfl) ?_ ?_
   ·refine⟨x28,⟨by dsimp only;omega,by dsimp only;omega⟩,?_⟩;dsimp only;rw[show(i+1).toNat=i.toNat+1 by omega,←S.be_next _ _ hQb (by omega) (by omega),←g2,←q6];rfl
   dsimp only;omega
  refine wp_exit (J26 _ _ (sq fun _ J36=>RS.mvI rfl (RS.mvI rfl ?_)));refine RS.adi ?_;refine RS.asI rfl (RS.asI rfl (RS.asI rfl (nl J36 (wp_ret ?_))));refine retIII ?_;rw[em]at g2;obtain⟨e1,e2,e3⟩:=S.rd_some (S.readN_many (b:=bs) (k:=k) (i:=i.toNat) (v:=r) (by omega) (by omega) (by omega) (by omega) (by omega) (by omega) (by omega) g2);rw[e1,e2,e3,show(((k+1).toNat:Nat):Int)=k+1 by omega];replace hE:=Ext.tr hE x28;exact⟨_,rfl,hE,rfl⟩
 refine RS.nm ?_;refine RS.skF 38 ?_;refine RS.skF 38 ?_;refine RS.skF 38 ?_;refine RS.skF 38 ?_;refine RS.wt 35 ?_;refine RS.pkf ?_;refine RS.pk ?_;refine nl J15 ?_;refine C.iff rfl ?_;refine wp_skip (J14 _ _ (wx fun _ J37=>?_));have QR:=R0.sub 1 (k+1).toNat c (by omega) (by omega) (by omega);have hQb:=QR.bd;have hQl:=QR.len;have em:(k+1).toNat - 1=k.toNat:=by omega
 refine region (RS.asI rfl (nl J37 (wx fun _ J38=>sq fun _ J39=>RS.mvS rfl (RS.mvI rfl ?_))));refine RS.adi ?_;refine RS.o (D.slice (kl:= .i64) (kh:= .i64) rfl V42 C5 (by decide) rfl rfl (by omega) (by omega)) ?_;refine RS.ln V42 ?_;refine RS.mvI rfl (nl J39 (wp_block ?_));refine C.loop (A:=Int×Int) (fun p=>[(6, .int .u64 p.2),(50, .int .i64 p.1)]) [8,51,52,53,54,55,56,57,58,59] (fun p w'=>Ext w w'∧((0≤p.1∧p.1≤((k+1).toNat - 1:Nat))∧p.2=S.be (((bs.drop 1).take ((k+1).toNat - 1)).take p.1.toNat))) (fun p=>(((k+1).toNat - 1) - p.1.toNat)) (0,0) (by kernel_rfl) ?_ ?_
 ·exact⟨Ext.refl _,⟨by dsimp only;omega,by dsimp only;omega⟩,rfl⟩
 rintro p j w40 ⟨x40,hI⟩;have zw40:=x40.size;obtain⟨i,r⟩:=p;dsimp only at hI;obtain⟨g1,g2⟩:=hI;have g3:=S.be8_lt ((bs.drop 1).take ((k+1).toNat - 1)) i.toNat hQb (by omega);rw[←g2]at g3;refine C.nmU ?_;refine sq fun _ J41=>?_
 refine RS.ol ?_;refine nl J41 (wx fun _ J42=>C.ifd rfl (fun c43=>?_) (fun c43=>?_))
 ·refine wp_skip (J42 _ _ (wx fun _ J44=>wp_block (sq fun _ J45=>?_)));replace QR:=QR.ext x40;refine RS.idx QR rfl rfl V42 C5 (by omega) (fun b46 o46 v46 h46 q46 r46=>?_);refine RS.nm ?_;simp only[lim]at r46;have q6:=q46;refine RS.o (D.load rfl V5 rfl (h46)) ?_;refine RS.asI rfl (nl J45 (region (RS.mvI rfl ?_)));refine RS.o (D.shl rfl rfl (by constructor<;>(try simp only[IntKind.bits])<;>omega) (by first|exact W.u64 (by omega)|exact W.u64m _)) ?_;refine RS.mvI rfl ?_;refine RS.o (D.conv rfl V5 V26 (by first|exact W.u64 (by omega)|exact W.u64m _)) ?_;refine RS.ob (D.bor_u64 rfl rfl (by omega) (by omega)) (fun z47=>?_);refine RS.asI rfl (nl J44 (region ?_));refine RS.adi ?_;refine RS.mvI rfl (RS.nil ?_);change Nx _ _ _ _ _ _ _ _;refine C.next (i+1,_) ⟨rfl,rfl,trivial⟩ (by kernel_rfl) ?_ ?_
  ·refine⟨x40,⟨by dsimp only;omega,by dsimp only;omega⟩,?_⟩;dsimp only;rw[show(i+1).toNat=i.toNat+1 by omega,←S.be_next _ _ hQb (by omega) (by omega),←g2,←q6];rfl
  dsimp only;omega
 refine wp_exit (J38 _ _ (sq fun _ J48=>RS.mvI rfl (RS.mvI rfl ?_)));refine RS.adi ?_;refine RS.asI rfl (RS.asI rfl (RS.asI rfl (nl J48 (wp_ret ?_))));refine retIII ?_;rw[em]at g2;obtain⟨e1,e2,e3⟩:=S.rd_some (S.readN_many (b:=bs) (k:=k) (i:=i.toNat) (v:=r) (by omega) (by omega) (by omega) (by omega) (by omega) (by omega) (by omega) g2);rw[e1,e2,e3,show(((k+1).toNat:Nat):Int)=k+1 by omega];replace hE:=Ext.tr hE x40;exact⟨_,rfl,hE,rfl⟩
theorem partW{S0:Nat→Prop}(a:Option Addr)(n c:Nat)(bs:List Int)(most wd:Nat)(hm:most≤1000000)(hw:0<wd∧wd≤32)(w:World)(R0:IRow .u8 S0 w a n bs)(hc:n≤c)(hn:n≤1000000):
  Calls prog 214 #[.slice a n c, .int .i64 most, .int .i64 wd] w (Ret w fun v w'=>∃a' n' c',v= .tuple #[.slice a' n' c', .int .i64 (S.ptU most wd bs), .int .i64 (S.ptE most wd bs)]∧n'≤c'∧IRow .u8 S0 w' a' n' (S.ptS most wd bs)):=by
 have hbl:=R0.len;have hbd:=R0.bd;obtain⟨hv,hu,hu9,he⟩:=S.rd_bd R0.bd;have hdv:=S.div_bd ((n:Int) - (S.rdU bs:Int)) (wd:Int) (by omega) (by omega);refine eE 48 func214 rfl rfl fun hE=>?_
 refine sq fun _ J1=>RS.asS rfl (RS.asI rfl (RS.asI rfl (nl J1 (wx fun _ J2=>sq fun _ J3=>RS.mvI rfl ?_))));refine RS.ol ?_;refine nl J3 (C.ifd rfl (fun c4=>?_) (fun c4=>?_))
 ·exfalso;omega
 refine wp_skip (J2 _ _ (sq fun _ J5=>RS.mvS rfl ?_));refine RS.call E213 (readN _ _ _ _ _ R0 hc hn) rfl (fun v6 w6 x6 A6=>?_);have zw6:=x6.size;subst A6;refine RS.nm ?_;refine RS.move (v:= .tuple _) rfl ?_;refine RS.exI ?_;refine RS.exI ?_;refine RS.exI ?_;refine RS.asI rfl (RS.asI rfl (RS.asI rfl (nl J5 (wx fun _ J7=>sq fun _ J8=>RS.mvI rfl ?_))));refine RS.on ?_;refine RS.mvB rfl ?_;replace hE:=Ext.tr hE x6;refine RS.splitn 23 rfl rfl (fun c9=>?_) (fun c9=>?_)
 ·refine RS.nm ?_;refine RS.skT 23 ?_;refine RS.skT 23 ?_;refine RS.skT 23 ?_;refine RS.skT 23 ?_;refine RS.pkt ?_;refine RS.mvB rfl ?_;refine RS.skT 29 ?_;refine RS.skT 29 ?_;refine RS.skT 29 ?_;refine RS.skT 29 ?_;refine RS.skT 29 ?_;refine RS.skT 29 ?_;refine RS.skT 29 ?_;refine RS.skT 29 ?_;refine RS.skT 29 ?_;refine RS.pkt ?_;refine nl J8 ?_;refine C.ift rfl ?_;refine sq fun _ J10=>RS.asS rfl (RS.asI rfl (RS.asI rfl (nl J10 (wp_ret ?_))));refine retSII ?_;obtain⟨e1,e2,e3⟩:=S.pt_not (most:=most) (wd:=wd) (b:=bs) (fun h=>by have h1:=h.1;have h2:=h.2.1;have h3:=h.2.2;rw[hbl]at h3;omega);rw[e1,e2];exact⟨_,rfl,hE,_,_,_,rfl,Nat.le_refl _,by rw[e3];exact IRow.nil⟩
 refine RS.nm ?_;refine RS.wt 23 ?_;refine RS.mvI rfl ?_;refine RS.wt 23 ?_;refine RS.mvI rfl ?_;refine RS.wt 23 ?_;refine RS.cw V3 V26 ?_;refine RS.wt 23 ?_;refine RS.og ?_;refine RS.pk ?_;refine RS.mvB rfl ?_;refine RS.splitd 29 rfl rfl (fun c11=>?_) (fun c11=>?_)
 ·refine RS.nm ?_;refine RS.skT 29 ?_;refine RS.skT 29 ?_;refine RS.skT 29 ?_;refine RS.skT 29 ?_;refine RS.skT 29 ?_;refine RS.skT 29 ?_;refine RS.skT 29 ?_;refine RS.skT 29 ?_;refine RS.skT 29 ?_;refine RS.pkt ?_;refine nl J8 ?_;refine C.ift rfl ?_;refine sq fun _ J12=>RS.asS rfl (RS.asI rfl (RS.asI rfl (nl J12 (wp_ret ?_))));refine retSII ?_;obtain⟨e1,e2,e3⟩:=S.pt_not (most:=most) (wd:=wd) (b:=bs) (fun h=>by have h1:=h.1;have h2:=h.2.1;have h3:=h.2.2;rw[hbl]at h3;omega);rw[e1,e2];exact⟨_,rfl,hE,_,_,_,rfl,Nat.le_refl _,by rw[e3];exact IRow.nil⟩
 refine RS.nm ?_;refine RS.wt 29 ?_;refine RS.mvI rfl ?_;refine RS.wt 29 ?_;refine RS.mvS rfl ?_;refine RS.wt 29 ?_;refine RS.ln V42 ?_;refine RS.wt 29 ?_;refine RS.mvI rfl ?_;refine RS.wt 29 ?_;refine RS.o (D.sub rfl rfl (W.i64 (by omega))) ?_;refine RS.wt 29 ?_;refine RS.mvI rfl ?_;refine RS.wt 29 ?_;refine RS.o (D.quo rfl rfl (by omega) (by omega) (W.i64 (by omega))) ?_;refine RS.wt 29 ?_;refine RS.cw V3 V26 ?_;refine RS.wt 29 ?_;refine RS.og ?_;refine RS.pk ?_;refine nl J8 (C.ifd rfl (fun c13=>?_) (fun c13=>?_))
 ·refine sq fun _ J14=>RS.asS rfl (RS.asI rfl (RS.asI rfl (nl J14 (wp_ret ?_))));refine retSII ?_;obtain⟨e1,e2,e3⟩:=S.pt_not (most:=most) (wd:=wd) (b:=bs) (fun h=>by have h1:=h.1;have h2:=h.2.1;have h3:=h.2.2;rw[hbl]at h3;omega);rw[e1,e2];exact⟨_,rfl,hE,_,_,_,rfl,Nat.le_refl _,by rw[e3];exact IRow.nil⟩
 refine wp_skip (J7 _ _ (wx fun _ J15=>?_));have hok:S.ptOk most wd bs:=⟨by omega,by omega,by rw[hbl];omega⟩
 replace R0:=R0.ext x6;have hml:=S.pt_mul R0.bd hok (by omega);have hmi:=S.pt_mulI (wd:=wd) R0.bd;refine region (RS.mvI rfl (RS.mvI rfl (RS.mvI rfl ?_)));refine RS.o (D.conv rfl V26 V3 (W.i64 (by omega))) ?_;refine RS.o (D.mul rfl rfl (W.i64 (by omega))) ?_;refine RS.adi ?_;refine RS.asI rfl ?_;refine nl J15 (sq fun _ J16=>?_);refine RS.mvS rfl (RS.mvI rfl (RS.mvI rfl ?_));refine RS.o (D.slice (kl:= .i64) (kh:= .i64) rfl V42 C5 (by decide) rfl rfl (by omega) (by omega)) ?_;refine RS.mvI rfl (RS.asS rfl (RS.asI rfl (RS.asI rfl (nl J16 (wp_ret ?_)))));refine retSII ?_;obtain⟨e1,e2,e3⟩:=S.pt_ok hok;have QR:=R0.sub (S.rdU bs) (S.rdU bs+wd*(S.rdV bs).toNat) c (by omega) (by omega) (by omega);have ex:S.rdU bs+wd*(S.rdV bs).toNat - S.rdU bs=wd*(S.rdV bs).toNat:=by omega
 rw[hmi];refine⟨_,rfl,hE,subA a (S.rdU bs) 1 c,S.rdU bs+wd*(S.rdV bs).toNat - S.rdU bs,c - S.rdU bs,by rw[e1,e2];rfl,by omega,?_⟩;rw[e3];rw[ex]at QR⊢;exact QR
theorem readB{S0:Nat→Prop}(a:Option Addr)(n c:Nat)(bs:List Int)(most:Nat)(hm:most≤1000000)(w:World)(R0:IRow .u8 S0 w a n bs)(hc:n≤c)(hn:n≤1000000):
  Calls prog 193 #[.slice a n c, .int .i64 most] w (Ret w fun v w'=>∃a' n' c',v= .tuple #[.slice a' n' c', .int .i64 (S.ptU most 1 bs), .int .i64 (S.ptE most 1 bs)]∧IOwn w.heap.size w' 5 .u8 a' n' c' (S.ptS most 1 bs)):=by
 have hbl:=R0.len;have hbd:=R0.bd;refine eE 19 func193 rfl rfl fun hE=>?_
 refine sq fun _ J1=>RS.asS rfl (RS.asI rfl (RS.asI rfl ?_));refine nl J1 (sq fun _ J2=>?_);refine RS.mvS rfl (RS.mvI rfl ?_);refine RS.call E214 (partW _ _ _ _ most 1 hm (by decide) _ R0 hc hn) rfl (fun v3 w3 x3 A3=>?_);have zw3:=x3.size;obtain⟨aP,nP,cP,rfl,hcP,P1⟩:=A3;have hpl:=P1.len;have hpe:=S.ptS_le most 1 bs;refine RS.nm ?_;refine RS.move (v:= .tuple _) rfl ?_;refine RS.exS ?_;refine RS.exI ?_;refine RS.exI ?_;refine RS.asS rfl (RS.asI rfl (RS.asI rfl ?_));refine nl J2 (sq fun _ J4=>?_);refine RS.mvS rfl ?_;refine RS.call E215 (cloneB2 _ _ _ _ _ P1 (by omega)) rfl (fun v5 w5 x5 A5=>?_);have zw5:=x5.size;obtain⟨aC,nC,cC,rfl,OC⟩:=A5;refine RS.nm ?_;refine RS.mvI rfl (RS.mvI rfl (RS.asS rfl (RS.asI rfl (RS.asI rfl (nl J4 (wp_ret ?_))))));refine retSII ?_;replace hE:=Ext.tr (Ext.tr hE x3) x5;exact⟨_,rfl,hE,_,_,_,rfl,OC.base (fun b hb=>by have:=OC.lo b hb;omega)⟩
theorem readIds{S0:Nat→Prop}(a:Option Addr)(n c:Nat)(bs:List Int)(most:Nat)(hm:most≤1000)(w:World)(R0:IRow .u8 S0 w a n bs)(hc:n≤c)(hn:n≤1000000):
  Calls prog 191 #[.slice a n c, .int .i64 most] w (Ret w fun v w'=>∃a' c',v= .tuple #[.slice a' (S.idN most bs) c', .int .i64 (S.idU most bs), .int .i64 (S.idE most bs)]∧S.idN most bs≤c'∧WRow .u8 32 (fun k=>w.heap.size≤k) w' a' (S.idN most bs) (S.idL most bs)):=by
 replace R0:=R0.weaken (T:=fun k=>k<w.heap.size) (fun k hk _=>hk);have hbl:=R0.len;have hbd:=R0.bd;have hrd:=S.rd_bd R0.bd;refine eE 43 func191 rfl rfl fun hE=>?_
 refine sq fun _ J1=>RS.asS rfl (RS.asI rfl (RS.asI rfl ?_));refine nl J1 (sq fun _ J2=>?_);refine RS.mvS rfl (RS.mvI rfl ?_);refine RS.call E214 (partW _ _ _ _ most 32 (by omega) (by decide) _ R0 hc hn) rfl (fun v3 w3 x3 A3=>?_);have zw3:=x3.size;obtain⟨aP,nP,cP,rfl,hcP,P1⟩:=A3;have hpl:=P1.len;refine RS.nm ?_;refine RS.move (v:= .tuple _) rfl ?_;refine RS.exS ?_;refine RS.exI ?_;refine RS.exI ?_;refine RS.asS rfl (RS.asI rfl (RS.asI rfl (nl J2 (wx fun _ J4=>sq fun _ J5=>RS.mvI rfl ?_))));refine RS.on ?_;refine nl J5 ?_;replace hE:=Ext.tr hE x3;refine C.ifn rfl (fun c6=>?_) (fun c6=>?_)
 ·have he:=c6;refine sq fun _ J7=>RS.mvI rfl (RS.asS rfl (RS.asI rfl (RS.asI rfl (nl J7 (wp_ret ?_)))));refine retSII ?_;obtain⟨e1,e2,e3,e4⟩:=S.id_none (most:=most) (b:=bs) (by rw[S.readI_pt most bs hbd,if_neg (fun h=>he h.1)]);have e5:S.ptE most 32 bs=12:=(S.pt_not (fun h=>he (S.ptE_zero.2 h))).1;rw[e5];rw[e1,e3,e4];refine⟨_,rfl,hE,_,_,rfl,Nat.le_refl _,by rw[e2];exact WRow.nil⟩
 have he:=c6;have hok:=S.ptE_zero.1 he;replace R0:=R0.ext x3;have hps:=S.ptS_len R0.bd hok (by decide);have hvb:=hok.2.1;obtain⟨m,hm2⟩:∃m:Nat,m=(S.rdV bs).toNat:=⟨_,rfl⟩
 rw[←hm2]at hps;refine wp_skip (J4 _ _ (sq fun _ J8=>RS.mvS rfl ?_));refine RS.ln V42 ?_;refine RS.o (D.quo rfl rfl (by omega) (by omega) (W.i64 (by omega))) ?_;refine RS.make rfl rfl V25 T23 (by omega) (by omega) (by omega) (fun b9 w9 e9 s9 x9 B9=>?_);refine RS.nm ?_;have zw9:=x9.size;have em:((nP:Int) / 32).toNat=m:=by omega
 rw[em]at B9⊢;rw[made_wide .u8 32 m (by decide)]at B9;obtain⟨bM,hbM⟩:∃b,b=b9:=⟨_,rfl⟩
 have BM:=B9;have hBM:=BM.lt;refine RS.asS rfl (nl J8 (wx fun _ J10=>sq fun _ J11=>RS.mvS rfl ?_));refine RS.ln V25 ?_;refine RS.mvI rfl (nl J11 (wp_block ?_));replace P1:=P1.ext x9;refine C.loop (A:=Int×Option Addr×Nat×Nat) (fun p=>[(7, .slice p.2.1 p.2.2.1 p.2.2.2),(28, .int .i64 p.1)]) [11,29,30,31,32,33,34,35,36,37,38,39] (fun p w'=>Pr (fun k=>k=b9) w9 w'∧((0≤p.1∧p.1≤m)∧Blk w' b9 (ints .u8 ((S.ptS most 32 bs).take (32*p.1.toNat)++List.replicate (32*(m - p.1.toNat)) 0)) 23∧p.2.2.1≤p.2.2.2∧IRow .u8 (fun k=>k<w.heap.size) w' p.2.1 p.2.2.1 ((S.ptS most 32 bs).drop (32*p.1.toNat)))) (fun p=>(m - p.1.toNat)) (0,aP,nP,cP) (by kernel_rfl) ?_ ?_
 ·exact⟨Pr.refl _ _,⟨by dsimp only;omega,by dsimp only;omega⟩,by simpa using BM,hcP,by simpa using P1⟩
 rintro p j w12 ⟨x12,hI⟩;have zw12:=x12.size;obtain⟨i,az,ns,cs⟩:=p;dsimp only at hI;obtain⟨g1,BM,hcs,P1⟩:=hI;have hns:=P1.len;rw[List.length_drop]at hns;refine C.nmU ?_;refine sq fun _ J13=>?_
 refine RS.ol ?_;refine nl J13 (wx fun _ J14=>C.ifd rfl (fun c15=>?_) (fun c15=>?_))
 ·refine wp_skip (J14 _ _ (wx fun _ J16=>wp_block (sq fun _ J17=>RS.mvI rfl (RS.asI rfl (nl J17 (region (RS.mvS rfl (RS.mvS rfl (RS.mvI rfl ?_)))))))));refine RS.o (D.indexAddr rfl rfl V25 C23 (by decide) rfl (by omega)) ?_;refine RS.o (D.sliceAt rfl V23 C5 (by decide)) ?_;refine RS.mvS rfl ?_;refine RS.copyA BM P1 rfl rfl V42 C5 (by decide) (by omega) (by simp;omega) (fun w18 y18 N18=>?_);refine RS.nm ?_;replace hE:=((Ext.tr hE x9).trans x12.belo).trans y18.belo;replace R0:=(R0.ext x9).pro x12;replace x12:=x12.stno y18;have zw18:=y18.size;replace BM:=N18;refine RS.o (D.slice (kl:= .i64) (kh:= .i64) rfl V42 C5 (by decide) rfl rfl (by omega) (by omega)) ?_;refine RS.asS rfl (nl J16 (region ?_));refine RS.adi ?_;refine RS.mvI rfl (RS.nil ?_);change Nx _ _ _ _ _ _ _ _;refine C.next (i+1,_,_,_) ⟨rfl,rfl,trivial⟩ (by kernel_rfl) ?_ ?_
  ·refine⟨x12,⟨by dsimp only;omega,by dsimp only;omega⟩,?_,by dsimp only;omega,?_⟩
   ·dsimp only;rw[show(i+1).toNat=i.toNat+1 by omega,←S.copy_step _ _ _ hps (by omega)];exact BM
   dsimp only;replace P1:=P1.sto y18;have:=P1.rest 32 cs (by omega) (by omega);rw[List.drop_drop,show 32*i.toNat+32=32*(i+1).toNat by omega]at this;exact this
  dsimp only;omega
 refine wp_exit (J10 _ _ (wx fun _ J19=>wx fun _ J20=>?_));have ei:i.toNat=m:=by omega
 rw[ei,Nat.sub_self,Nat.mul_zero,List.replicate_zero,List.append_nil,List.take_of_length_le (by omega)]at BM;have OI:WOwn w.heap.size w12 23 .u8 32 _ m m (S.ptS most 32 bs):=WOwn.of_blk BM rfl hps (by omega) (S.ptS_bd most 32 bs hbd) (by omega);refine region (RS.mvS rfl ?_);refine RS.call E159 (risingW _ _ _ _ _ OI.row (Nat.le_refl _) (by omega)) rfl (fun v21 w21 x21 A21=>?_);have zw21:=x21.size;subst A21;refine RS.nm ?_;refine RS.o (D.not rfl) ?_;refine nl J20 ?_;replace hE:=Ext.tr ((Ext.tr hE x9).trans x12.belo) x21;refine C.ifnot rfl (fun c22=>?_) (fun c22=>?_)
 ·have hr:=of_decide_eq_false c22;refine sq fun _ J23=>RS.asS rfl (RS.asI rfl (RS.asI rfl (nl J23 (wp_ret ?_))));refine retSII ?_;obtain⟨e1,e2,e3,e4⟩:=S.id_none (most:=most) (b:=bs) (by rw[S.readI_pt most bs hbd,hps,show 32*m / 32=m by omega,if_neg (fun h=>hr h.2)]);rw[e1,e3,e4];refine⟨_,rfl,hE,_,_,rfl,Nat.le_refl _,by rw[e2];exact WRow.nil⟩
 have hr:=of_decide_eq_true c22;refine wp_skip (J19 _ _ (sq fun _ J24=>RS.mvS rfl (RS.mvI rfl (RS.asS rfl (RS.asI rfl (RS.asI rfl (nl J24 (wp_ret ?_))))))));refine retSII ?_;obtain⟨e1,e2,e3,e4⟩:=S.id_some (show S.readI most bs=some (m,S.ptS most 32 bs,S.ptU most 32 bs)by rw[S.readI_pt most bs hbd,hps,show 32*m / 32=m by omega,if_pos ⟨he,hr⟩]);rw[e1,e3,e4];replace OI:=OI.ext x21;exact⟨_,rfl,hE,_,_,rfl,Nat.le_refl _,by rw[e2];exact OI.row⟩
theorem readSg{S0:Nat→Prop}(a:Option Addr)(n c:Nat)(bs:List Int)(w:World)(R0:IRow .u8 S0 w a n bs)(hc:n≤c)(hn:n≤1000000):
  Calls prog 216 #[.slice a n c] w (Ret w fun v _=>v= .tuple #[.int .i64 (if S.rdE bs=0 then S.unzig (S.rdV bs)else 0), .int .i64 (S.rdU bs), .int .i64 (S.rdE bs)]):=by
 have hbl:=R0.len;have hbd:=R0.bd;obtain⟨hv,hu,hu9,he⟩:=S.rd_bd R0.bd;refine eE 25 func216 rfl rfl fun hE=>?_
 refine sq fun _ J1=>RS.asI rfl (RS.asI rfl (RS.asI rfl ?_));refine nl J1 (sq fun _ J2=>?_);refine RS.mvS rfl ?_;refine RS.call E213 (readN _ _ _ _ _ R0 hc hn) rfl (fun v3 w3 x3 A3=>?_);have zw3:=x3.size;subst A3;refine RS.nm ?_;refine RS.move (v:= .tuple _) rfl ?_;refine RS.exI ?_;refine RS.exI ?_;refine RS.exI ?_;refine RS.asI rfl (RS.asI rfl (RS.asI rfl (nl J2 (wx fun _ J4=>sq fun _ J5=>RS.mvI rfl ?_))));refine RS.on ?_;refine nl J5 ?_;replace hE:=Ext.tr hE x3;refine C.ifn rfl (fun c6=>?_) (fun c6=>?_)
 ·have hz:=c6;refine sq fun _ J7=>RS.mvI rfl (RS.asI rfl (RS.asI rfl (RS.asI rfl (nl J7 (wp_ret ?_)))));refine retIII ?_;obtain⟨e1,e2,e3⟩:=S.rd_none (S.rd_bad hz);rw[if_neg hz,e2];exact⟨_,rfl,hE,rfl⟩
 have hz:=c6;have hhb:=S.half_bd _ hv;refine wp_skip (J4 _ _ (sq fun _ J8=>RS.mvI rfl ?_));refine RS.ob (D.shr_u64 rfl rfl (by omega) (by constructor<;>omega)) (fun z9=>?_);refine RS.o (D.conv rfl V26 V2 (W.i64 (by omega))) ?_;refine RS.mvI rfl ?_;refine RS.ob (D.band_u64 rfl rfl (by omega) (by omega)) (fun z10=>?_);refine RS.o (D.conv rfl V26 V2 (W.i64 (by omega))) ?_;refine RS.o (D.neg rfl (W.i64 (by omega))) ?_;refine RS.o (D.sxor rfl rfl) ?_;refine RS.mvI rfl (RS.asI rfl (RS.asI rfl (RS.asI rfl (nl J8 (wp_ret ?_)))));refine retIII ?_;rw[if_pos hz,hz,←S.unzig_sxor _ hv];exact⟨_,rfl,hE,rfl⟩
end W
namespace S
open G
theorem zer8:(0:Int)≤0∧(0:Int)<256:=by decide
theorem zerI: -9223372036854775808≤(0:Int)∧(0:Int)≤9223372036854775807:=by decide
theorem zer64:(0:Int)≤0∧(0:Int)<18446744073709551616:=by decide
theorem sg_bd{b:List Int}(hB:Bd .u8 b): -9223372036854775808≤(if rdE b=0 then unzig (rdV b)else 0)∧(if rdE b=0 then unzig (rdV b)else 0)≤9223372036854775807:=by
 split
 ·exact unzig_bd _ (rd_bd hB).1
 ·decide
section
variable{x:Int}{r:List Int}
theorem valR_one(hk:x=1)(h:rdE r=0):valR x r=some ((if rdE r=0 then unzig (rdV r)else 0),0, .empty,rdU r):=by
 unfold valR;rw[if_pos hk,rd_zero h,if_pos h];rfl
theorem valR_oneN(hk:x=1)(h:rdE r≠0):valR x r=none:=by
 unfold valR;rw[if_pos hk,rd_bad h];rfl
theorem valR_twoN(hk:x=2)(h:r.length<8):valR x r=none:=by
 unfold valR;rw[if_neg (by omega),if_pos hk,if_pos h]
theorem valR_two(hk:x=2)(h:¬r.length<8){v:Int}(hv:v=be (r.take 8)):valR x r=some (0,v, .empty,8):=by
 unfold valR;rw[if_neg (by omega),if_pos hk,if_neg h,hv]
theorem valR_three(hk:x=3)(h:ptE 30 1 r=0):valR x r=some (0,0,strOfNums (ptS 30 1 r),ptU 30 1 r):=by
 unfold valR;rw[if_neg (by omega),if_neg (by omega),if_pos hk];have:=readB_pt 30 r;rw[if_pos h]at this;rw[show((30:Nat):Int)=30 from rfl]at this;rw[this];rfl
theorem valR_threeN(hk:x=3)(h:ptE 30 1 r≠0):valR x r=none:=by
 unfold valR;rw[if_neg (by omega),if_neg (by omega),if_pos hk];have:=readB_pt 30 r;rw[if_neg h]at this;rw[show((30:Nat):Int)=30 from rfl]at this;rw[this];rfl
theorem valR_else(h1:x≠1)(h2:x≠2)(h3:x≠3):valR x r=some (0,0, .empty,0):=by
 unfold valR;rw[if_neg h1,if_neg h2,if_neg h3]
theorem vd_nil:vdS []=⟨0,0,0, .empty,0,12⟩:=rfl
theorem vd_fail(h:valR x r=none):vdS (x::r)=⟨0,0,0, .empty,0,12⟩:=vd_none (by unfold valD;simp only[h];rfl)
theorem vd_bad{num bits:Int}{t:ByteArray}{u:Nat}(h:valR x r=some (num,bits,t,u))(hE:valE x num bits t≠0):vdS (x::r)=⟨0,0,0, .empty,0,12⟩:=
 vd_none (by unfold valD;simp only[h,Option.bind_some];exact if_neg (fun hF=>hE (valE_zero.2 hF)))
theorem vd_good{num bits:Int}{t:ByteArray}{u:Nat}(h:valR x r=some (num,bits,t,u))(hE:valE x num bits t=0):vdS (x::r)=⟨x,num,bits,t,u+1,0⟩:=
 vd_some (by unfold valD;simp only[h,Option.bind_some];exact if_pos (valE_zero.1 hE))
end
def nxB(e:Int)(bad:Bool):Bool:=if e=0 then bad else true
def nxL(e:Int)(u:Nat)(b:List Int):List Int:=if e=0 then b.drop u else b
theorem nx_zero{e:Int}(h:e=0)(u:Nat)(bad:Bool)(b:List Int):nxB e bad=bad∧nxL e u b=b.drop u:=by unfold nxB nxL;rw[if_pos h,if_pos h];exact⟨rfl,rfl⟩
theorem nx_ne{e:Int}(h:e≠0)(u:Nat)(bad:Bool)(b:List Int):nxB e bad=true∧nxL e u b=b:=by unfold nxB nxL;rw[if_neg h,if_neg h];exact⟨rfl,rfl⟩
theorem numB_rd(m:Int)(bad:Bool)(b:List Int):rdV b=(numB m bad b).1∧(nxB (rdE b) bad||decide (m<rdV b))=(numB m bad b).2.1∧nxL (rdE b) (rdU b) b=(numB m bad b).2.2:=by
 unfold numB numR;cases h:readN b with
 |none=>
  obtain⟨e1,e2,e3⟩:=rd_none h;obtain⟨h1,h2⟩:=nx_ne (e:=rdE b) (by rw[e3];decide) (rdU b) bad b;rw[e1,h1,h2];exact⟨rfl,rfl,rfl⟩
 |some y=>
  obtain⟨n,u⟩:=y;obtain⟨e1,e2,e3⟩:=rd_some h;obtain⟨h1,h2⟩:=nx_zero e3 (rdU b) bad b;rw[e1,h1,h2,e2];exact⟨rfl,rfl,rfl⟩
theorem idsB_rd(bad:Bool)(b:List Int):idN 4 b=(idsB bad b).1∧idL 4 b=(idsB bad b).2.1∧nxB (idE 4 b) bad=(idsB bad b).2.2.1∧nxL (idE 4 b) (idU 4 b) b=(idsB bad b).2.2.2:=by
 unfold idsB idsR;have e:readI ((4:Nat):Int) b=readI 4 b:=rfl;cases h:readI 4 b with
 |none=>
  obtain⟨e1,e2,e3,e4⟩:=id_none (most:=4) (e.trans h);obtain⟨h1,h2⟩:=nx_ne (e:=idE 4 b) (by rw[e4];decide) (idU 4 b) bad b;rw[e1,e2,h1,h2];exact⟨rfl,rfl,rfl,rfl⟩
 |some y=>
  obtain⟨n,l,u⟩:=y;obtain⟨e1,e2,e3,e4⟩:=id_some (most:=4) (e.trans h);obtain⟨h1,h2⟩:=nx_zero e4 (idU 4 b) bad b;rw[e1,e2,h1,h2,e3];exact⟨rfl,rfl,rfl,rfl⟩
theorem keyB_rd(bad:Bool)(b:List Int):strOfNums (ptS 20 1 b)=(keyB bad b).1∧nxB (ptE 20 1 b) bad=(keyB bad b).2.1∧nxL (ptE 20 1 b) (ptU 20 1 b) b=(keyB bad b).2.2:=by
 have hr:=readB_pt 20 b;rw[show((20:Nat):Int)=20 from rfl]at hr;unfold keyB keyR;by_cases h:ptE 20 1 b=0
 ·rw[if_pos h]at hr;obtain⟨h1,h2⟩:=nx_zero h (ptU 20 1 b) bad b;rw[h1,h2,hr];exact⟨rfl,rfl,rfl⟩
 ·rw[if_neg h]at hr;obtain⟨h1,h2⟩:=nx_ne h (ptU 20 1 b) bad b;obtain⟨_,_,q3⟩:=pt_not (fun hk=>h (ptE_zero.2 hk));rw[h1,h2,hr,q3];exact⟨by rfl,rfl,rfl⟩
theorem valB_rd(key:ByteArray)(bad:Bool)(b:List Int):(⟨(vdS b).k,(vdS b).num,(vdS b).bits,key,(vdS b).t⟩:ActV)=(valB key bad b).1∧nxB (vdS b).e bad=(valB key bad b).2.1∧nxL (vdS b).e (vdS b).u b=(valB key bad b).2.2:=by
 unfold valB valV;cases h:valD b with
 |none=>
  rw[vd_none h];exact⟨rfl,rfl,rfl⟩
 |some y=>
  obtain⟨k,n,c,t,u⟩:=y;rw[vd_some h];exact⟨rfl,rfl,rfl⟩
theorem actB_none{k:Int}(bad:Bool)(b:List Int)(h:k=1):(⟨0,0,0, .empty, .empty⟩,bad,b)=actB k bad b:=by unfold actB;rw[if_pos h]
theorem actB_key{k:Int}(bad:Bool)(b:List Int)(h:k≠1)(h4:k≠4):(⟨0,0,0,(keyB bad b).1, .empty⟩,(keyB bad b).2.1,(keyB bad b).2.2)=actB k bad b:=by unfold actB;rw[if_neg h,if_neg h4]
theorem actB_val{k:Int}(bad:Bool)(b:List Int)(h4:k=4):valB (keyB bad b).1 (keyB bad b).2.1 (keyB bad b).2.2=actB k bad b:=by unfold actB;rw[if_neg (by omega),if_pos h4]
theorem id_le{b:List Int}(hB:Bd .u8 b):idN 4 b≤4∧idU 4 b≤b.length∧(idL 4 b).length=32*idN 4 b:=by
 have e:readI ((4:Nat):Int) b=readI 4 b:=rfl;cases h:readI 4 b with
 |none=>
  obtain⟨e1,e2,e3,e4⟩:=id_none (most:=4) (e.trans h);rw[e1,e2,e3];simp
 |some y=>
  obtain⟨n,l,u⟩:=y;obtain⟨e1,e2,e3,e4⟩:=id_some (most:=4) (e.trans h);obtain⟨q1,q2,q3,_⟩:=readI_inv hB h;rw[e1,e2,e3];exact⟨by omega,q2,q3⟩
theorem ptU_le{most wd:Nat}{b:List Int}(hB:Bd .u8 b)(hw:0<wd):ptU most wd b≤b.length:=by
 by_cases h:ptOk most wd b
 ·have:=pt_mul hB h hw;rw[(pt_ok h).2.1];omega
 ·rw[(pt_not h).2.1];omega
theorem vd_bd{b:List Int}(hB:Bd .u8 b):(0≤(vdS b).k∧(vdS b).k<256)∧(-9223372036854775808≤(vdS b).num∧(vdS b).num≤9223372036854775807)∧(0≤(vdS b).bits∧(vdS b).bits<18446744073709551616)∧(vdS b).u≤b.length∧(vdS b).t.size≤30:=by
 cases h:valD b with
 |none=>rw[vd_none h];simp
 |some y=>
  obtain⟨k,n,c,t,u⟩:=y;obtain⟨q1,q2,q3,q4,q5,_⟩:=val_inv hB h;rw[vd_some h];refine⟨q2,q3,q4,q5,?_⟩;rcases q1 with⟨_,_,rfl⟩|⟨_,_,rfl,_⟩|⟨_,_,_,ht,_⟩
  ·simp
  ·simp
  ·exact ht
theorem nxL_bd{e:Int}{u:Nat}{b:List Int}(hB:Bd .u8 b):Bd .u8 (nxL e u b):=by unfold nxL;split;exact hB.drop _;exact hB
theorem numB_bd{m:Int}{bad:Bool}{b:List Int}(hB:Bd .u8 b):(0≤(numB m bad b).1∧(numB m bad b).1<18446744073709551616)∧Bd .u8 (numB m bad b).2.2:=by
 obtain⟨h1,_,h3⟩:=numB_rd m bad b;rw[←h1,←h3];exact⟨(rd_bd hB).1,nxL_bd hB⟩
theorem oneB_bd{bad:Bool}{b:List Int}(hB:Bd .u8 b):(0≤(oneB bad b).1∧(oneB bad b).1<256)∧Bd .u8 (oneB bad b).2.2:=by
 unfold oneB;split
 ·exact⟨zer8,hB⟩
 ·cases b with
  |nil=>exact⟨zer8,hB⟩
  |cons x t=>exact⟨hB x List.mem_cons_self,fun y hy=>hB y (List.mem_cons_of_mem _ hy)⟩
theorem idsB_bd{bad:Bool}{b:List Int}(hB:Bd .u8 b):(idsB bad b).1≤4∧(idsB bad b).2.1.length=32*(idsB bad b).1∧Bd .u8 (idsB bad b).2.2.2:=by
 obtain⟨h1,h2,_,h4⟩:=idsB_rd bad b;obtain⟨q1,q2,q3⟩:=id_le hB;rw[←h1,←h2,←h4];exact⟨q1,q3,nxL_bd hB⟩
theorem keyB_bd{bad:Bool}{b:List Int}(hB:Bd .u8 b):(keyB bad b).1.size≤20∧Bd .u8 (keyB bad b).2.2:=by
 obtain⟨h1,_,h3⟩:=keyB_rd bad b;rw[←h1,←h3];refine⟨?_,nxL_bd hB⟩;rw[←bys_len,bys_strOf _ (ptS_bd _ _ _ hB)];by_cases h:ptOk 20 1 b
 ·rw[ptS_len hB h (by decide)];have:=h.2.1;omega
 ·rw[(pt_not h).2.2];simp
theorem actB_bd{k:Int}{bad:Bool}{b:List Int}(hB:Bd .u8 b):((0≤(actB k bad b).1.vk∧(actB k bad b).1.vk<256)∧(-9223372036854775808≤(actB k bad b).1.num∧(actB k bad b).1.num≤9223372036854775807)∧(0≤(actB k bad b).1.bits∧(actB k bad b).1.bits<18446744073709551616)∧(actB k bad b).1.key.size≤20∧(actB k bad b).1.t.size≤30)∧Bd .u8 (actB k bad b).2.2:=by
 have hk:=keyB_bd (bad:=bad) hB;unfold actB;split
 ·exact⟨⟨zer8,zerI,zer64,by simp,by simp⟩,hB⟩
 ·split
  ·obtain⟨h1,_,h3⟩:=valB_rd (keyB bad b).1 (keyB bad b).2.1 (keyB bad b).2.2;obtain⟨q1,q2,q3,_,q5⟩:=vd_bd hk.2;rw[←h1,←h3];exact⟨⟨q1,q2,q3,hk.1,q5⟩,nxL_bd hk.2⟩
  ·exact⟨⟨zer8,zerI,zer64,hk.1,by simp⟩,hk.2⟩
theorem dec_head{b:List Int}(h:(oneB false b).1≠111):decS b=none:=by
 unfold decS;cases b with
 |nil=>rfl
 |cons x t=>exact if_neg h
theorem Steps.none{b:List Int}(hB:Bd .u8 b)(p:Steps b)(h:¬(p.h.1=111∧p.s.2.1=false∧p.s.2.2=[]∧checkE p.op=0)):decS b= .none:=by
 cases hd:decS b with
 |none=>rfl
 |some o=>exact absurd (Steps.bad hB p hd) h
theorem Steps.ok{b:List Int}(hB:Bd .u8 b)(p:Steps b):p.op.ok∧p.op.ids.length=32*p.op.n:=by
 obtain⟨h,a,l,t,k,x,e,s,eh,ea,el,et,ek,ex,ee,es⟩:=p;simp only[Steps.op];subst eh;have B1:=(oneB_bd (bad:=false) hB).2;subst ea;obtain⟨_,B2⟩:=numB_bd (m:=1000000007) (bad:=(oneB false b).2.1) B1;generalize numB 1000000007 _ _=a at*;subst el;obtain⟨l1,l2,B3⟩:=idsB_bd (bad:=a.2.1) B2;generalize idsB _ _=l at*;subst et;obtain⟨t1,B4⟩:=numB_bd (m:=1000000000000) (bad:=l.2.2.1) B3;generalize numB 1000000000000 _ _=t at*;subst ek;obtain⟨k1,B5⟩:=oneB_bd (bad:=t.2.1) B4;generalize oneB t.2.1 _=k at*;subst ex;obtain⟨⟨x1,x2,x3,x4,x5⟩,B6⟩:=actB_bd (k:=k.1) (bad:=k.2.1) B5;generalize actB _ _ _=x at*;exact⟨⟨by show 0≤a.1 % 4294967296∧a.1 % 4294967296<4294967296;omega,t1,k1,x1,x2,x3,by show 0≤e.1 % 4294967296∧e.1 % 4294967296<4294967296;omega,by show 0≤s.1 % 4294967296∧s.1 % 4294967296<4294967296;omega,by show l.1≤40;omega,by show x.1.key.size≤100;omega,by show x.1.t.size≤100;omega⟩,l2⟩
end S
end Go.Proofs.YtjjbdaiioociaaaGreatDoor
