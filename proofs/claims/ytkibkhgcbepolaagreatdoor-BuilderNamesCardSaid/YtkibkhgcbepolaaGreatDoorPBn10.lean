/-
  Part 10 of the lemmas of these laws: BuilderNames.
-/
import Derived.Test.YtkibkhgcbepolaaGreatDoorPBn9
set_option linter.unusedVariables false
set_option linter.unusedSimpArgs false
open Go.Proofs.Tryz
namespace Go.Proofs.YtkibkhgcbepolaaGreatDoor
namespace W
open Go.RowKit G
set_option maxRecDepth 20000
set_option maxHeartbeats 8000000
attribute [local irreducible] RS RX
theorem E181:Enters prog 181:= .mk func181 (by kernel_rfl) rfl
theorem E183:Enters prog 183:= .mk func183 (by kernel_rfl) rfl
theorem E188:Enters prog 188:= .mk func188 (by kernel_rfl) rfl
theorem E257:Enters prog 257:= .mk func257 (by kernel_rfl) rfl
theorem E259:Enters prog 259:= .mk func259 (by kernel_rfl) rfl
theorem messageO{S0:Nat→Prop}(o:S.OpV)(ho:o.ok)(pa:Option Addr)(pc:Nat)(w:World)(D0:WRow .u8 32 S0 w pa o.n o.ids)(hc:o.n≤pc):
  Calls prog 186 #[.agg ([.int .u32 o.au, .slice pa o.n pc, .int .u64 o.st, .int .u8 o.k, .string o.key, .int .u8 o.vk, .int .i64 o.num, .int .u64 o.bits, .string o.t, .int .u32 o.e, .int .u32 o.s]:List Value).toArray] w (Ret w fun v w'=>∃a' n' c' xs,v= .tuple #[.slice a' n' c', .int .i64 (S.checkE o.bare)]∧IOwn w.heap.size w' 5 .u8 a' n' c' xs∧xs=if S.checkE o.bare=0 then S.msgS o else []):=by
 replace D0:=D0.weaken (T:=fun k=>k<w.heap.size) (fun k hk _=>hk);have o1:=ho.au;have o2:=ho.st;have o3:=ho.k;have o4:=ho.vk;have o5:=ho.num;have o6:=ho.bits;have o9:=ho.n;have o10:=ho.key;have o11:=ho.t;have e1:=S.numS_len o.au;have e2:=S.numS_len o.st;have e3:=S.numS_len (o.n:Int);have e4:=D0.len;have e5:=S.numS_len (o.key.size:Int);have e6:=S.valS_len o.vk o.num o.bits o.t o11;refine eE 70 func186 rfl rfl fun hE=>?_
 refine sq fun _ J1=>?_
 refine RS.box rfl rfl (fun b2 w2 e2 s2 x2 B2=>?_);refine RS.nm ?_;have zw2:=x2.size;refine RS.asS rfl (RS.asI rfl ?_);refine nl J1 (sq fun _ J3=>?_);refine RS.o (D.buildS T35 F35 (ps:=[]) rfl rfl) ?_;refine RS.fl 9 V37 rfl C35 ?_;refine RS.sa C35 B2 (fun w4 y4 N4=>?_);have zw4:=y4.size;replace B2:=N4;refine nl J3 (wx fun _ J5=>sq fun _ J6=>?_);refine RS.la V37 C37 B2 11 ?_;replace D0:=(D0.ext x2).sto y4;refine RS.call E188 (checkO o.bare (S.OpV.bare_ok ho) _ _ _ D0 hc) rfl (fun v7 w7 x7 A7=>?_);have zw7:=x7.size;subst A7;refine RS.nm ?_;refine RS.asI rfl ?_;refine nl J6 (sq fun _ J8=>?_);refine RS.mvI rfl ?_;refine RS.on ?_;refine nl J8 ?_;replace hE:=Ext.tr ((Ext.tr hE x2).trans y4.belo) x7;refine C.ifn rfl (fun c9=>?_) (fun c9=>?_)
 ·have hnz:=c9;refine sq fun _ J10=>RS.mvI rfl (RS.asS rfl (RS.asI rfl (nl J10 (wp_ret ?_))));refine retSI ?_;exact⟨_,rfl,hE,none,0,0,[],rfl,IOwn.nil _ _ _ _,(if_neg hnz).symm⟩
 have hz:=c9;obtain⟨q1,q2,q3⟩:=S.check_zero.1 hz;have hfa:=q3.2.2.2.2;have q4:o.n≤4:=q1;refine wp_skip (J5 _ _ (sq fun _ J11=>?_));refine RS.fl 1 V37 rfl C22 ?_;replace B2:=B2.ext x7;refine RS.ld V22 B2 ?_;replace D0:=D0.ext x7;refine RS.call E257 (idsW _ _ _ _ _ D0 hc (by have:o.n≤4:=q1;omega) q2) rfl (fun v12 w12 x12 A12=>?_);have zw12:=x12.size;obtain⟨a12,n12,c12,rfl,OP⟩:=A12;have hpc:=OP.own.pre;refine RS.nm ?_;refine RS.move (v:= .tuple _) rfl ?_;refine RS.exS ?_;refine RS.exI ?_;refine RS.asS rfl (RS.asI rfl (nl J11 (wx fun _ J13=>?_)));replace B2:=B2.ext x12;refine regionM 13 [25,26,27,28,29,30,31,32,33,34,35,36,37] (fun i v w=>match i with|0=>∃a n c,v= .slice a n c∧IRow .u8 (fun _=>True) w a n [111]∧n≤c|1=>v= .pointer (some ⟨b2,0,none⟩)|2=>v= .int .u32 o.au|3=>v= .int .u64 o.au|4=>∃a n c,v= .slice a n c∧IRow .u8 (fun _=>True) w a n (S.numS o.au)∧n≤c|5=>v= .slice a12 n12 c12|6=>v= .pointer (some ⟨b2,2,none⟩)|7=>v= .int .u64 o.st|8=>∃a n c,v= .slice a n c∧IRow .u8 (fun _=>True) w a n (S.numS o.st)∧n≤c|9=>v= .pointer (some ⟨b2,3,none⟩)|10=>v= .pointer (some ⟨b2,3,none⟩)|11=>v= .int .u8 o.k|12=>∃a n c,v= .slice a n c∧IRow .u8 (fun _=>True) w a n [o.k]∧n≤c|_=>True) [(13, .e),(14, .e),(15, .q)] mixed (by kernel_rfl) ?_ (fun w14 x14=>?_) (fun f w15 x15 hF=>?_)
 ·intro i v w w2 h x
  match i,h with
  |0,h=>(obtain⟨a,n,c,h1,h2,h3⟩:=h;exact⟨a,n,c,h1,h2.ext x,h3⟩)
  |1,h=>exact h
  |2,h=>exact h
  |3,h=>exact h
  |4,h=>(obtain⟨a,n,c,h1,h2,h3⟩:=h;exact⟨a,n,c,h1,h2.ext x,h3⟩)
  |5,h=>exact h
  |6,h=>exact h
  |7,h=>exact h
  |8,h=>(obtain⟨a,n,c,h1,h2,h3⟩:=h;exact⟨a,n,c,h1,h2.ext x,h3⟩)
  |9,h=>exact h
  |10,h=>exact h
  |11,h=>exact h
  |12,h=>(obtain⟨a,n,c,h1,h2,h3⟩:=h;exact⟨a,n,c,h1,h2.ext x,h3⟩)
  |_+13,h=>trivial
 ·have zw14:=x14.size;replace B2:=B2.ext x14;refine⟨?_,?_,?_,?_,?_,?_,?_,?_,?_,?_,?_,?_,?_,trivial⟩
  ·intro f w16 x16 hd;refine RS.nmF ?_;dsimp only[nth];refine RS.bs1 V48 T5 (fun b17 w17 e17 s17 x17 B17=>?_);refine RS.nm ?_;have Q1:IRow .u8 (fun k=>k=b17) w17 (some ⟨b17,0,none⟩) 1 [_]:=IRow.of_blk B17 rfl rfl rfl (.cons (by simp only[lim];omega) (.nil _));refine RS.nil ?_;refine⟨.slice (some ⟨b17,0,none⟩) 1 1,?_,x17,?_⟩
   ·simp only[FF,upd,List.map_cons,List.map_nil,List.set_cons_succ,List.set_cons_zero,List.getD_cons_zero,List.getD_cons_succ]
   exact⟨_,_,_,rfl,Q1.weaken (fun _ _ _=>trivial),Nat.le_refl _⟩
  ·intro f w18 x18 hd;refine RS.nmF ?_;dsimp only[nth];refine RS.fl 0 V37 rfl C28 ?_;refine RS.nil ?_;refine⟨.pointer (some ⟨b2,0,none⟩),?_,(Ext.refl _),?_⟩
   ·simp only[FF,upd,List.map_cons,List.map_nil,List.set_cons_succ,List.set_cons_zero,List.getD_cons_zero,List.getD_cons_succ]
   rfl
  ·intro f w19 x19 hd;have h19_1:(f 26)= .pointer (some ⟨b2,0,none⟩):=hd 1 (by decide+kernel);refine RS.nmF ?_;rw[h19_1];dsimp only[nth];replace B2:=B2.ext x19;refine RS.ld V28 B2 ?_;refine RS.nil ?_;refine⟨.int .u32 o.au,?_,(Ext.refl _),?_⟩
   ·simp only[FF,upd,List.map_cons,List.map_nil,List.set_cons_succ,List.set_cons_zero,List.getD_cons_zero,List.getD_cons_succ,h19_1]
   rfl
  ·intro f w20 x20 hd;have h20_2:(f 27)= .int .u32 o.au:=hd 2 (by decide+kernel);refine RS.nmF ?_;rw[h20_2];dsimp only[nth];refine RS.cw V28 V29 ?_;refine RS.nil ?_;refine⟨.int .u64 o.au,?_,(Ext.refl _),?_⟩
   ·simp only[FF,upd,List.map_cons,List.map_nil,List.set_cons_succ,List.set_cons_zero,List.getD_cons_zero,List.getD_cons_succ,h20_2]
   rfl
  ·intro f w21 x21 hd;have h21_3:(f 28)= .int .u64 o.au:=hd 3 (by decide+kernel);refine RS.nmF ?_;rw[h21_3];dsimp only[nth];refine RS.call E190 (numW _ (by omega) _) rfl (fun v22 w22 x22 A22=>?_);obtain⟨a22,n22,c22,rfl,O1⟩:=A22;refine RS.nm ?_;refine RS.nil ?_;refine⟨.slice a22 n22 c22,?_,x22,?_⟩
   ·simp only[FF,upd,List.map_cons,List.map_nil,List.set_cons_succ,List.set_cons_zero,List.getD_cons_zero,List.getD_cons_succ,h21_3]
   exact⟨_,_,_,rfl,O1.row.weaken (fun _ _ _=>trivial),O1.own.pre⟩
  ·intro f w23 x23 hd;refine RS.nmF ?_;dsimp only[nth];refine RS.mvS rfl (RS.nil ?_);refine⟨.slice a12 n12 c12,?_,(Ext.refl _),?_⟩
   ·simp only[FF,upd,List.map_cons,List.map_nil,List.set_cons_succ,List.set_cons_zero,List.getD_cons_zero,List.getD_cons_succ]
   rfl
  ·intro f w24 x24 hd;refine RS.nmF ?_;dsimp only[nth];refine RS.fl 2 V37 rfl C29 ?_;refine RS.nil ?_;refine⟨.pointer (some ⟨b2,2,none⟩),?_,(Ext.refl _),?_⟩
   ·simp only[FF,upd,List.map_cons,List.map_nil,List.set_cons_succ,List.set_cons_zero,List.getD_cons_zero,List.getD_cons_succ]
   rfl
  ·intro f w25 x25 hd;have h25_6:(f 31)= .pointer (some ⟨b2,2,none⟩):=hd 6 (by decide+kernel);refine RS.nmF ?_;rw[h25_6];dsimp only[nth];replace B2:=B2.ext x25;refine RS.ld V29 B2 ?_;refine RS.nil ?_;refine⟨.int .u64 o.st,?_,(Ext.refl _),?_⟩
   ·simp only[FF,upd,List.map_cons,List.map_nil,List.set_cons_succ,List.set_cons_zero,List.getD_cons_zero,List.getD_cons_succ,h25_6]
   rfl
  ·intro f w26 x26 hd;have h26_7:(f 32)= .int .u64 o.st:=hd 7 (by decide+kernel);refine RS.nmF ?_;rw[h26_7];dsimp only[nth];refine RS.call E190 (numW _ (by omega) _) rfl (fun v27 w27 x27 A27=>?_);obtain⟨a27,n27,c27,rfl,O1⟩:=A27;refine RS.nm ?_;refine RS.nil ?_;refine⟨.slice a27 n27 c27,?_,x27,?_⟩
   ·simp only[FF,upd,List.map_cons,List.map_nil,List.set_cons_succ,List.set_cons_zero,List.getD_cons_zero,List.getD_cons_succ,h26_7]
   exact⟨_,_,_,rfl,O1.row.weaken (fun _ _ _=>trivial),O1.own.pre⟩
  ·intro f w28 x28 hd;refine RS.nmF ?_;dsimp only[nth];refine RS.fl 3 V37 rfl C33 ?_;refine RS.nil ?_;refine⟨.pointer (some ⟨b2,3,none⟩),?_,(Ext.refl _),?_⟩
   ·simp only[FF,upd,List.map_cons,List.map_nil,List.set_cons_succ,List.set_cons_zero,List.getD_cons_zero,List.getD_cons_succ]
   rfl
  ·intro f w29 x29 hd;have h29_9:(f 34)= .pointer (some ⟨b2,3,none⟩):=hd 9 (by decide+kernel);refine RS.nmF ?_;rw[h29_9];dsimp only[nth];refine RS.fl 3 V33 rfl C5 ?_;refine RS.nil ?_;refine⟨.pointer (some ⟨b2,3,none⟩),?_,(Ext.refl _),?_⟩
   ·simp only[FF,upd,List.map_cons,List.map_nil,List.set_cons_succ,List.set_cons_zero,List.getD_cons_zero,List.getD_cons_succ,h29_9]
   rfl
  ·intro f w30 x30 hd;have h30_10:(f 35)= .pointer (some ⟨b2,3,none⟩):=hd 10 (by decide+kernel);refine RS.nmF ?_;rw[h30_10];dsimp only[nth];replace B2:=B2.ext x30;refine RS.ld V5 B2 ?_;refine RS.nil ?_;refine⟨.int .u8 o.k,?_,(Ext.refl _),?_⟩
   ·simp only[FF,upd,List.map_cons,List.map_nil,List.set_cons_succ,List.set_cons_zero,List.getD_cons_zero,List.getD_cons_succ,h30_10]
   rfl
  intro f w31 x31 hd;have h31_11:(f 36)= .int .u8 o.k:=hd 11 (by decide+kernel);refine RS.nmF ?_;rw[h31_11];dsimp only[nth];refine RS.bs1 V48 T5 (fun b32 w32 e32 s32 x32 B32=>?_);refine RS.nm ?_;have Q1:IRow .u8 (fun k=>k=b32) w32 (some ⟨b32,0,none⟩) 1 [_]:=IRow.of_blk B32 rfl rfl rfl (.cons (by simp only[lim];omega) (.nil _));refine RS.nil ?_;refine⟨.slice (some ⟨b32,0,none⟩) 1 1,?_,x32,?_⟩
  ·simp only[FF,upd,List.map_cons,List.map_nil,List.set_cons_succ,List.set_cons_zero,List.getD_cons_zero,List.getD_cons_succ,h31_11]
  exact⟨_,_,_,rfl,Q1.weaken (fun _ _ _=>trivial),Nat.le_refl _⟩
 have zw15:=x15.size;obtain⟨g0,g1,g2,g3,g4,g5,g6,g7,g8,g9,g10,g11,g12,_⟩:=hF;replace g0:∃a n c,(f 25)= .slice a n c∧IRow .u8 (fun _=>True) w15 a n [111]∧n≤c:=g0;replace g1:(f 26)= .pointer (some ⟨b2,0,none⟩):=g1;replace g2:(f 27)= .int .u32 o.au:=g2;replace g3:(f 28)= .int .u64 o.au:=g3;replace g4:∃a n c,(f 29)= .slice a n c∧IRow .u8 (fun _=>True) w15 a n (S.numS o.au)∧n≤c:=g4;replace g5:(f 30)= .slice a12 n12 c12:=g5;replace g6:(f 31)= .pointer (some ⟨b2,2,none⟩):=g6;replace g7:(f 32)= .int .u64 o.st:=g7;replace g8:∃a n c,(f 33)= .slice a n c∧IRow .u8 (fun _=>True) w15 a n (S.numS o.st)∧n≤c:=g8;replace g9:(f 34)= .pointer (some ⟨b2,3,none⟩):=g9;replace g10:(f 35)= .pointer (some ⟨b2,3,none⟩):=g10;replace g11:(f 36)= .int .u8 o.k:=g11;replace g12:∃a n c,(f 37)= .slice a n c∧IRow .u8 (fun _=>True) w15 a n [o.k]∧n≤c:=g12;obtain⟨a25,n25,c25,g0,Q25,l25⟩:=g0;obtain⟨a29,n29,c29,g4,Q29,l29⟩:=g4;obtain⟨a33,n33,c33,g8,Q33,l33⟩:=g8;obtain⟨a37,n37,c37,g12,Q37,l37⟩:=g12;refine RX.norm (by simp only[FF,upd,List.map_cons,List.map_nil,List.set_cons_succ,List.set_cons_zero];exact rfl) ?_;rw[g0,g1,g2,g3,g4,g5,g6,g7,g8,g9,g10,g11,g12];refine RX.eff ?_;refine RS.buildSlice (xs:=[.tmp 25, .tmp 29, .tmp 30, .tmp 33, .tmp 37]) (vs:=[.slice _ _ _, .slice _ _ _, .slice _ _ _, .slice _ _ _, .slice _ _ _]) (cs:=[.slice _ _ _, .slice _ _ _, .slice _ _ _, .slice _ _ _, .slice _ _ _]) V327 T48 (by decide) rfl rfl rfl rfl rfl rfl (by intro v hv;simp only[List.mem_cons,List.not_mem_nil,or_false]at hv;rcases hv with rfl|rfl|rfl|rfl|rfl<;>rfl) rfl (fun b33 w33 e33 s33 x33 B33=>?_);refine RS.nm ?_;refine RS.nil ⟨x33,?_⟩;refine RX.eff ?_;replace OP:=(OP.ext x15).ext x33;replace Q25:=Q25.ext x33;replace Q29:=Q29.ext x33;replace Q33:=Q33.ext x33;replace Q37:=Q37.ext x33
 refine RS.call E189 (concat [⟨a25,n25,c25,[111]⟩,⟨a29,n29,c29,S.numS o.au⟩,⟨a12,n12,c12,S.listS o.n o.ids⟩,⟨a33,n33,c33,S.numS o.st⟩,⟨a37,n37,c37,[o.k]⟩] _ _ _ _ (PRow.of_blkE B33 rfl rfl ⟨⟨_,Q25,l25⟩,⟨_,Q29,l29⟩,⟨_,OP.row,hpc⟩,⟨_,Q33,l33⟩,⟨_,Q37,l37⟩,trivial⟩) (show(5:Nat)≤1000 by decide) (by simp[cat,S.listS];omega)) rfl (fun v34 w34 x34 A34=>?_);have zw34:=x34.size;obtain⟨a34,n34,c34,rfl,O1⟩:=A34;have ecat:cat [⟨a25,n25,c25,[111]⟩,⟨a29,n29,c29,S.numS o.au⟩,⟨a12,n12,c12,S.listS o.n o.ids⟩,⟨a33,n33,c33,S.numS o.st⟩,⟨a37,n37,c37,[o.k]⟩]=([111]++S.numS o.au++S.listS o.n o.ids++S.numS o.st++[o.k]):=by simp[cat]
 rw[ecat]at O1;replace O1:=O1.base (lo':=w2.heap.size) (fun k hk=>by have:=O1.lo k hk;omega);have hol0:=O1.len;simp only[List.length_append,List.length_singleton,S.listS]at hol0;refine RS.nm ?_;refine RS.nil ⟨x34,?_⟩;refine RX.assign (v:= .slice _ _ _) rfl ?_;refine RX.nil (J13 _ _ ?_);refine wx fun _ J35=>sq fun _ J36=>?_
 refine RS.fl 3 V37 rfl C33 ?_;refine RS.fl 3 V33 rfl C5 ?_;replace B2:=((B2.ext x15).ext x33).ext x34;refine RS.ld V5 B2 ?_;refine RS.oq ?_;refine nl J36 ?_;replace hE:=Ext.tr (Ext.tr (Ext.tr (Ext.tr hE x12) x15) x33) x34;refine C.ife rfl (fun c37=>?_) (fun c37=>?_)
 ·have hk:=c37;refine sq fun _ J38=>RS.mvS rfl (RS.asS rfl (RS.asI rfl (nl J38 (wp_ret ?_))));refine retSI ?_;have em:S.msgS o=([111]++S.numS o.au++S.listS o.n o.ids++S.numS o.st++[o.k]):=by unfold S.msgS;rw[if_pos hk,List.append_nil]
  exact⟨_,rfl,hE,_,_,_,_,by rw[hz],O1.base (fun k hk=>by have:=O1.lo k hk;omega),by rw[if_pos hz,em]⟩
 have hk:=c37;refine wp_skip (J35 _ _ (sq fun _ J39=>?_));refine RS.fl 3 V37 rfl C33 ?_;refine RS.fl 4 V33 rfl C9 ?_;refine RS.ld V9 B2 ?_;refine RS.convSB rfl V9 V48 V5 (fun a40 c40 w40 x40 g40 s40 R40=>?_);refine RS.nm ?_;have RT:=R40;refine RS.call E258 (bytesW _ _ _ _ _ RT (by omega)) rfl (fun v41 w41 x41 A41=>?_);have zw41:=x41.size;obtain⟨a41,n41,c41,rfl,O2⟩:=A41;have hnl:=O2.len;rw[List.length_append,bys_len]at hnl;refine RS.nm ?_;refine RS.move (v:= .tuple _) rfl ?_;refine RS.exS ?_;refine RS.exI ?_;refine RS.asS rfl (RS.asI rfl ?_);refine nl J39 (sq fun _ J42=>?_);refine RS.mvS rfl (RS.mvS rfl ?_);replace O1:=(O1.ext x40).ext x41;refine RS.appendI O1 O2.row rfl rfl V48 T5 rfl (by omega) (by decide) (by omega) (fun a43 c43 w43 N43 x43=>?_);refine RS.nm ?_;replace hE:=Ext.tr (Ext.tr hE x40) x41;replace hE:=hE.trans (x43.belQ (fun _ h=>(O1.lo _ h).1));replace D0:=(((((D0.ext x12).ext x15).ext x33).ext x34).ext x40).ext x41;replace D0:=D0.prQ x43 (fun _ h=>(O1.lo _ h).1);replace B2:=(B2.ext x40).ext x41;replace B2:=B2.prQ x43 (fun _ h=>(O1.lo _ h).1);have zw43:=x43.size;replace O1:=N43;refine RS.nm ?_;have hol:=O1.len;refine RS.asS rfl (nl J42 (wx fun _ J44=>sq fun _ J45=>?_));refine RS.fl 3 V37 rfl C33 ?_;refine RS.fl 3 V33 rfl C5 ?_;refine RS.ld V5 B2 ?_;refine RS.oq ?_;refine nl J45 ?_;refine C.ife rfl (fun c46=>?_) (fun c46=>?_)
 ·have hk4:=c46;refine sq fun _ J47=>?_
  refine RS.fl 3 V37 rfl C33 ?_;refine RS.fl 5 V33 rfl C31 ?_;refine RS.la V31 C31 B2 4 ?_;have hfv:S.FineV o.vk o.num o.bits o.t:=by rcases hfa with h|h|h;exact absurd h.1 (by show o.bare.k≠1;show o.k≠1;omega);exact absurd h.1 (by show ¬(o.k=2∨o.k=3);omega);exact h.2.2
  refine RS.call E259 (encV _ _ _ _ o4 o5 o6 hfv (by omega) _) rfl (fun v48 w48 x48 A48=>?_);have zw48:=x48.size;obtain⟨a48,n48,c48,rfl,O3⟩:=A48;have hvl:=O3.len;refine RS.nm ?_;refine RS.move (v:= .tuple _) rfl ?_;refine RS.exS ?_;refine RS.exI ?_;refine RS.asS rfl (RS.asI rfl (nl J47 (region (RS.mvS rfl (RS.mvS rfl ?_)))));replace O1:=O1.ext x48;refine RS.appendI O1 O3.row rfl rfl V48 T5 rfl (by omega) (by decide) (by omega) (fun a49 c49 w49 N49 x49=>?_);refine RS.nm ?_;replace hE:=Ext.tr hE x48;replace hE:=hE.trans (x49.belQ (fun _ h=>(O1.lo _ h).1));replace D0:=D0.ext x48;replace D0:=D0.prQ x49 (fun _ h=>(O1.lo _ h).1);replace B2:=B2.ext x48;replace B2:=B2.prQ x49 (fun _ h=>(O1.lo _ h).1);replace O1:=N49;refine RS.asS rfl ?_;refine nl J44 (sq fun _ J50=>?_);refine RS.mvS rfl (RS.asS rfl (RS.asI rfl (nl J50 (wp_ret ?_))));refine retSI ?_;have em:S.msgS o=([111]++S.numS o.au++S.listS o.n o.ids++S.numS o.st++[o.k])++(S.numS o.key.size++bys o.key)++S.valS o.vk o.num o.bits o.t:=by unfold S.msgS;rw[if_neg hk,if_pos hk4,←List.append_assoc]
  exact⟨_,rfl,hE,_,_,_,_,by rw[hz],O1.base (fun k hk=>by have:=O1.lo k hk;omega),by rw[if_pos hz,em]⟩
 have hk4:=c46;refine wp_skip (J44 _ _ (sq fun _ J51=>RS.mvS rfl (RS.asS rfl (RS.asI rfl (nl J51 (wp_ret ?_))))));refine retSI ?_;have em:S.msgS o=([111]++S.numS o.au++S.listS o.n o.ids++S.numS o.st++[o.k])++(S.numS o.key.size++bys o.key):=by unfold S.msgS;rw[if_neg hk,if_neg hk4,List.append_nil]
 exact⟨_,rfl,hE,_,_,_,_,by rw[hz],O1.base (fun k hk=>by have:=O1.lo k hk;omega),by rw[if_pos hz,em]⟩
theorem textOR{S0:Nat→Prop}(o:S.OpV)(ho:o.ok)(pa:Option Addr)(pc:Nat)(w:World)(D0:WRow .u8 32 S0 w pa o.n o.ids)(hc:o.n≤pc)(h4:o.n≤4)(hF:o.k=4→S.FineV o.vk o.num o.bits o.t):
  Calls prog 92 #[.agg ([.int .u32 o.au, .slice pa o.n pc, .int .u64 o.st, .int .u8 o.k, .string o.key, .int .u8 o.vk, .int .i64 o.num, .int .u64 o.bits, .string o.t, .int .u32 o.e, .int .u32 o.s]:List Value).toArray] w (Ret w fun v w'=>∃a' n' c',v= .slice a' n' c'∧IOwn w.heap.size w' 5 .u8 a' n' c' (S.msgS o)):=by
 replace D0:=D0.weaken (T:=fun k=>k<w.heap.size) (fun k hk _=>hk);have o1:=ho.au;have o2:=ho.st;have o3:=ho.k;have o4:=ho.vk;have o5:=ho.num;have o6:=ho.bits;have o10:=ho.key;have o11:=ho.t;have e1:=S.numS_len o.au;have e2:=S.numS_len o.st;have e3:=S.numS_len (o.n:Int);have e4:=D0.len;have e5:=S.numS_len (o.key.size:Int);have e6:=S.valS_len o.vk o.num o.bits o.t o11;refine eE 46 func92 rfl rfl fun hE=>?_
 refine sq fun _ J1=>?_
 refine RS.box rfl rfl (fun b2 w2 e2 s2 x2 B2=>?_);refine RS.nm ?_;have zw2:=x2.size;refine RS.asS rfl ?_;refine nl J1 (sq fun _ J3=>?_);refine RS.bs1 V48 T5 (fun b4 w4 e4 s4 x4 B4=>?_);refine RS.nm ?_;have O1:IOwn w2.heap.size w4 5 .u8 (some ⟨b4,0,none⟩) 1 1 [_]:=IOwn.of_blk B4 rfl rfl (by omega) (.cons (by simp only[lim];omega) (.nil _)) (by decide);refine RS.fl 0 V37 rfl C28 ?_;replace B2:=B2.ext x4;refine RS.ld V28 B2 ?_;refine RS.cw V28 V29 ?_;refine RS.call E180 (numR _ (by omega) _) rfl (fun v5 w5 x5 A5=>?_);have zw5:=x5.size;obtain⟨a5,n5,c5,rfl,O2⟩:=A5;have h2l:=O2.len;refine RS.nm ?_;replace O1:=O1.ext x5;refine RS.appendI O1 O2.row rfl rfl V48 T5 rfl (by omega) (by decide) (by omega) (fun a6 c6 w6 N6 x6=>?_);refine RS.nm ?_;replace hE:=Ext.tr (Ext.tr (Ext.tr hE x2) x4) x5;replace hE:=hE.trans (x6.belQ (fun _ h=>(O1.lo _ h).1));replace D0:=((D0.ext x2).ext x4).ext x5;replace D0:=D0.prQ x6 (fun _ h=>(O1.lo _ h).1);replace B2:=B2.ext x5;replace B2:=B2.prQ x6 (fun _ h=>(O1.lo _ h).1);have zw6:=x6.size;replace O1:=N6;refine RS.nm ?_;have hl1:=O1.len;refine RS.asS rfl (nl J3 (wx fun _ J7=>?_));refine regionX (Below w2.heap.size) [(0, .q),(1, .q),(2, .q),(5, .q),(6, .q),(3, .e),(4, .e),(7, .e),(8, .g),(9, .q)] mixed (fun w=>Below.refl _ _) (fun h k=>Below.trans h k) (by kernel_rfl) (fun w8 x8=>?_);have zw8:=x8.size;refine RX.mvS rfl ?_;refine RX.fl 1 V37 rfl C22 ?_;replace B2:=B2.ext x8;refine RX.o (fun w' hw=>D.load rfl V22 rfl ((B2.bel hw (by omega)).cell rfl)) ?_;refine RX.fl 2 V37 rfl C29 ?_;refine RX.o (fun w' hw=>D.load rfl V29 rfl ((B2.bel hw (by omega)).cell rfl)) ?_;refine RX.eff ?_;replace D0:=D0.ext x8;refine RS.call E181 (listR _ _ _ _ _ D0 hc (by omega)) rfl (fun v9 w9 x9 A9=>?_);have zw9:=x9.size;obtain⟨a9,n9,c9,rfl,O2⟩:=A9;have h2l:=O2.len;rw[S.listS,List.length_append]at h2l;refine RS.nm ?_;refine RS.nil ⟨(x9.mono (by omega)),?_⟩
 refine RX.eff ?_;replace O1:=(O1.ext x8).ext x9;refine RS.appendI O1 O2.row rfl rfl V48 T5 rfl (by omega) (by decide) (by omega) (fun a10 c10 w10 N10 x10=>?_);refine RS.nm ?_;replace hE:=Ext.tr (Ext.tr hE x8) x9;replace hE:=hE.trans (x10.belQ (fun _ h=>(O1.lo _ h).1));replace D0:=D0.ext x9;replace D0:=D0.prQ x10 (fun _ h=>(O1.lo _ h).1);replace B2:=B2.ext x9;replace B2:=B2.prQ x10 (fun _ h=>(O1.lo _ h).1);have zw10:=x10.size;have lr10:Below w2.heap.size w9 w10:=x10.belQ (fun _ h=>(O1.own.lo _ h).1);replace O1:=N10;refine RS.nm ?_;have hl2:=O1.len;refine RS.nil ⟨(lr10),?_⟩;refine RX.eff ?_;refine RS.call E180 (numR _ (by omega) _) rfl (fun v11 w11 x11 A11=>?_);have zw11:=x11.size;obtain⟨a11,n11,c11,rfl,O2⟩:=A11;have h2l:=O2.len;refine RS.nm ?_;refine RS.nil ⟨(x11.mono (by omega)),?_⟩;refine RX.big ?_;replace O1:=O1.ext x11;refine RS.appendI O1 O2.row rfl rfl V48 T5 rfl (by omega) (by decide) (by omega) (fun a12 c12 w12 N12 x12=>?_);refine RS.nm ?_;replace hE:=Ext.tr hE x11;replace hE:=hE.trans (x12.belQ (fun _ h=>(O1.lo _ h).1));replace D0:=D0.ext x11;replace D0:=D0.prQ x12 (fun _ h=>(O1.lo _ h).1);replace B2:=B2.ext x11;replace B2:=B2.prQ x12 (fun _ h=>(O1.lo _ h).1);have zw12:=x12.size;replace O1:=N12;refine RS.nm ?_;have hl3:=O1.len;refine RS.nil ?_;refine RX.assign (v:= .slice _ _ _) rfl ?_;refine RX.nil (J7 _ _ ?_);refine sq fun _ J13=>RS.mvS rfl ?_;refine RS.fl 3 V37 rfl C33 ?_;refine RS.fl 3 V33 rfl C5 ?_;refine RS.ld V5 B2 ?_;refine RS.bs1 V48 T5 (fun b14 w14 e14 s14 x14 B14=>?_);refine RS.nm ?_;have Q1:IRow .u8 (fun k=>k=b14) w14 (some ⟨b14,0,none⟩) 1 [_]:=IRow.of_blk B14 rfl rfl rfl (.cons (by simp only[lim];omega) (.nil _));replace O1:=O1.ext x14;refine RS.appendI O1 Q1 rfl rfl V48 T5 rfl (by omega) (by decide) (by omega) (fun a15 c15 w15 N15 x15=>?_);refine RS.nm ?_;replace hE:=Ext.tr hE x14;replace hE:=hE.trans (x15.belQ (fun _ h=>(O1.lo _ h).1))
 replace D0:=D0.ext x14;replace D0:=D0.prQ x15 (fun _ h=>(O1.lo _ h).1);replace B2:=B2.ext x14;replace B2:=B2.prQ x15 (fun _ h=>(O1.lo _ h).1);have zw15:=x15.size;replace O1:=N15;refine RS.nm ?_;have hl4:=O1.len;refine RS.asS rfl (nl J13 (wx fun _ J16=>sq fun _ J17=>?_));refine RS.fl 3 V37 rfl C33 ?_;refine RS.fl 3 V33 rfl C5 ?_;refine RS.ld V5 B2 ?_;refine RS.on ?_;refine nl J17 (C.ifn rfl (fun c18=>?_) (fun c18=>?_))
 ·have hk:=c18;refine region (RS.mvS rfl ?_);refine RS.fl 3 V37 rfl C33 ?_;refine RS.fl 4 V33 rfl C9 ?_;refine RS.ld V9 B2 ?_;refine RS.convSB rfl V9 V48 V5 (fun a19 c19 w19 x19 g19 s19 R19=>?_);refine RS.nm ?_;have RT:=R19;refine RS.call E182 (textR _ _ _ _ _ RT (by omega)) rfl (fun v20 w20 x20 A20=>?_);have zw20:=x20.size;obtain⟨a20,n20,c20,rfl,O2⟩:=A20;have h2l:=O2.len;rw[List.length_append,bys_len]at h2l;refine RS.nm ?_;replace O1:=(O1.ext x19).ext x20;refine RS.appendI O1 O2.row rfl rfl V48 T5 rfl (by omega) (by decide) (by omega) (fun a21 c21 w21 N21 x21=>?_);refine RS.nm ?_;replace hE:=Ext.tr (Ext.tr hE x19) x20;replace hE:=hE.trans (x21.belQ (fun _ h=>(O1.lo _ h).1));replace D0:=(D0.ext x19).ext x20;replace D0:=D0.prQ x21 (fun _ h=>(O1.lo _ h).1);replace B2:=(B2.ext x19).ext x20;replace B2:=B2.prQ x21 (fun _ h=>(O1.lo _ h).1);have zw21:=x21.size;replace O1:=N21;refine RS.nm ?_;have hl5:=O1.len;refine RS.asS rfl (nl J16 (wx fun _ J22=>sq fun _ J23=>?_));refine RS.fl 3 V37 rfl C33 ?_;refine RS.fl 3 V33 rfl C5 ?_;refine RS.ld V5 B2 ?_;refine RS.oq ?_;refine nl J23 ?_;refine C.ife rfl (fun c24=>?_) (fun c24=>?_)
  ·have hk4:=c24;refine region (RS.mvS rfl ?_);refine RS.fl 3 V37 rfl C33 ?_;refine RS.fl 5 V33 rfl C31 ?_;refine RS.la V31 C31 B2 4 ?_;refine RS.call E183 (valBytesR _ _ _ _ o4 o5 o6 (hF hk4) (by omega) _) rfl (fun v25 w25 x25 A25=>?_);have zw25:=x25.size;obtain⟨a25,n25,c25,rfl,O2⟩:=A25;have h2l:=O2.len;refine RS.nm ?_;replace O1:=O1.ext x25;refine RS.appendI O1 O2.row rfl rfl V48 T5 rfl (by omega) (by decide) (by omega) (fun a26 c26 w26 N26 x26=>?_);refine RS.nm ?_;replace hE:=Ext.tr hE x25;replace hE:=hE.trans (x26.belQ (fun _ h=>(O1.lo _ h).1));replace D0:=D0.ext x25;replace D0:=D0.prQ x26 (fun _ h=>(O1.lo _ h).1);replace B2:=B2.ext x25;replace B2:=B2.prQ x26 (fun _ h=>(O1.lo _ h).1);replace O1:=N26;refine RS.asS rfl ?_;refine nl J22 (sq fun _ J27=>?_);refine RS.mvS rfl (RS.asS rfl (nl J27 (wp_ret ?_)));refine retS ?_;have em:S.msgS o=([111]++S.numS o.au++S.listS o.n o.ids++S.numS o.st++[o.k])++(S.numS o.key.size++bys o.key)++S.valS o.vk o.num o.bits o.t:=by unfold S.msgS;rw[if_neg hk,if_pos hk4,←List.append_assoc]
   rw[em];exact⟨_,rfl,hE,_,_,_,rfl,O1.base (fun k hk=>by have:=O1.lo k hk;omega)⟩
  have hk4:=c24;refine wp_skip (J22 _ _ (sq fun _ J28=>RS.mvS rfl (RS.asS rfl (nl J28 (wp_ret ?_)))));refine retS ?_;have em:S.msgS o=([111]++S.numS o.au++S.listS o.n o.ids++S.numS o.st++[o.k])++(S.numS o.key.size++bys o.key):=by unfold S.msgS;rw[if_neg hk,if_neg hk4,List.append_nil]
  rw[em];exact⟨_,rfl,hE,_,_,_,rfl,O1.base (fun k hk=>by have:=O1.lo k hk;omega)⟩
 have hk:=c18;refine wp_skip (J16 _ _ (wx fun _ J29=>sq fun _ J30=>?_));refine RS.fl 3 V37 rfl C33 ?_;refine RS.fl 3 V33 rfl C5 ?_;refine RS.ld V5 B2 ?_;refine RS.oq ?_;refine nl J30 ?_;refine C.ife rfl (fun c31=>?_) (fun c31=>?_)
 ·have hk4:=c31;refine region (RS.mvS rfl ?_);refine RS.fl 3 V37 rfl C33 ?_;refine RS.fl 5 V33 rfl C31 ?_;refine RS.la V31 C31 B2 4 ?_;refine RS.call E183 (valBytesR _ _ _ _ o4 o5 o6 (hF hk4) (by omega) _) rfl (fun v32 w32 x32 A32=>?_);obtain⟨a32,n32,c32,rfl,O2⟩:=A32;have h2l:=O2.len;refine RS.nm ?_;replace O1:=O1.ext x32;refine RS.appendI O1 O2.row rfl rfl V48 T5 rfl (by omega) (by decide) (by omega) (fun a33 c33 w33 N33 x33=>?_);refine RS.nm ?_;replace hE:=Ext.tr hE x32;replace hE:=hE.trans (x33.belQ (fun _ h=>(O1.lo _ h).1));replace D0:=D0.ext x32;replace D0:=D0.prQ x33 (fun _ h=>(O1.lo _ h).1);replace B2:=B2.ext x32;replace B2:=B2.prQ x33 (fun _ h=>(O1.lo _ h).1);replace O1:=N33;refine RS.asS rfl ?_;refine nl J29 (sq fun _ J34=>?_);refine RS.mvS rfl (RS.asS rfl (nl J34 (wp_ret ?_)));refine retS ?_;exfalso;omega
 have hk4:=c31;refine wp_skip (J29 _ _ (sq fun _ J35=>RS.mvS rfl (RS.asS rfl (nl J35 (wp_ret ?_)))));refine retS ?_;have em:S.msgS o=([111]++S.numS o.au++S.listS o.n o.ids++S.numS o.st++[o.k]):=by unfold S.msgS;rw[if_pos hk,List.append_nil]
 rw[em];exact⟨_,rfl,hE,_,_,_,rfl,O1.base (fun k hk=>by have:=O1.lo k hk;omega)⟩
theorem E92:Enters prog 92:= .mk func92 (by kernel_rfl) rfl
theorem E97:Enters prog 97:= .mk func97 (by kernel_rfl) rfl
theorem E112:Enters prog 112:= .mk func112 (by kernel_rfl) rfl
theorem E113:Enters prog 113:= .mk func113 (by kernel_rfl) rfl
theorem E186:Enters prog 186:= .mk func186 (by kernel_rfl) rfl
theorem E191:Enters prog 191:= .mk func191 (by kernel_rfl) rfl
theorem encodeO{S0:Nat→Prop}(o:S.OpV)(ho:o.ok)(pa:Option Addr)(pc:Nat)(w:World)(D0:WRow .u8 32 S0 w pa o.n o.ids)(hc:o.n≤pc):
  Calls prog 97 #[.agg ([.int .u32 o.au, .slice pa o.n pc, .int .u64 o.st, .int .u8 o.k, .string o.key, .int .u8 o.vk, .int .i64 o.num, .int .u64 o.bits, .string o.t, .int .u32 o.e, .int .u32 o.s]:List Value).toArray] w (Ret w fun v w'=>∃a' n' c' xs,v= .tuple #[.slice a' n' c', .int .i64 (S.checkE o)]∧IOwn w.heap.size w' 5 .u8 a' n' c' xs∧xs=if S.checkE o=0 then S.encS o else []):=by
 replace D0:=D0.weaken (T:=fun k=>k<w.heap.size) (fun k hk _=>hk);have o7:=ho.e;have o8:=ho.s;have e4:=D0.len;have e7:=S.numS_len o.e;have e8:=S.numS_len o.s;refine eE 29 func97 rfl rfl fun hE=>?_
 refine sq fun _ J1=>?_
 refine RS.box rfl rfl (fun b2 w2 e2 s2 x2 B2=>?_);refine RS.nm ?_;refine RS.asS rfl (RS.asI rfl (nl J1 (wx fun _ J3=>sq fun _ J4=>?_)));refine RS.la V37 C37 B2 11 ?_;replace D0:=D0.ext x2;refine RS.call E188 (checkO o ho _ _ _ D0 hc) rfl (fun v5 w5 x5 A5=>?_);have zw5:=x5.size;subst A5;refine RS.nm ?_;refine RS.asI rfl ?_;refine nl J4 (sq fun _ J6=>?_);refine RS.mvI rfl ?_;refine RS.on ?_;refine nl J6 ?_;replace hE:=Ext.tr (Ext.tr hE x2) x5;refine C.ifn rfl (fun c7=>?_) (fun c7=>?_)
 ·have hnz:=c7;refine sq fun _ J8=>RS.mvI rfl (RS.asS rfl (RS.asI rfl (nl J8 (wp_ret ?_))));refine retSI ?_;exact⟨_,rfl,hE,none,0,0,[],rfl,IOwn.nil _ _ _ _,(if_neg hnz).symm⟩
 have hz:=c7;obtain⟨q1,q2,q3⟩:=S.check_zero.1 hz;have hml:=S.msg_len o ho q1 e4;have hzb:S.checkE o.bare=0:=S.check_zero.2 ⟨q1,q2,q3.1,q3.2.1,(by show(0:Int)<500000003;decide),(by show(0:Int)<500000003;decide),q3.2.2.2.2⟩;refine wp_skip (J3 _ _ (sq fun _ J9=>?_));replace B2:=B2.ext x5;refine RS.la V37 C37 B2 11 ?_;replace D0:=D0.ext x5;refine RS.call E186 (messageO o ho _ _ _ D0 hc) rfl (fun v10 w10 x10 A10=>?_);have zw10:=x10.size;obtain⟨a10,n10,c10,xs,rfl,OM,hxs⟩:=A10;rw[if_pos hzb]at hxs;subst hxs;have hOM:=OM.len;have pOM:=OM.own.pre;refine RS.nm ?_;refine RS.move (v:= .tuple _) rfl ?_;refine RS.exS ?_;refine RS.exI ?_;refine RS.asS rfl (RS.asI rfl (nl J9 (wx fun _ J11=>?_)));refine regionX Ext [(0, .q),(1, .q),(2, .q),(3, .q),(4, .q),(6, .q),(7, .q),(8, .q),(9, .q),(5, .e),(10, .e),(11, .e),(12, .e),(13, .q),(14, .q)] mixed Ext.refl (fun h k=>h.tr k) (by kernel_rfl) (fun w12 x12=>?_);have zw12:=x12.size;refine RX.mvS rfl ?_;refine RX.fl 9 V37 rfl C35 ?_;refine RX.fl 9 V35 rfl C28 ?_;replace B2:=(B2.ext x10).ext x12;refine RX.o (fun w' hw=>D.load rfl V28 rfl ((B2.ext hw).cell rfl)) ?_;refine RX.o (fun w' hw=>D.conv rfl V28 V29 (W.u64 (by omega))) ?_;refine RX.fl 9 V37 rfl C35 ?_;refine RX.fl 10 V35 rfl C28 ?_;refine RX.o (fun w' hw=>D.load rfl V28 rfl ((B2.ext hw).cell rfl)) ?_;refine RX.o (fun w' hw=>D.conv rfl V28 V29 (W.u64 (by omega))) ?_;refine RX.eff ?_;refine RS.call E190 (numW _ (by omega) _) rfl (fun v13 w13 x13 A13=>?_);have zw13:=x13.size;obtain⟨a13,n13,c13,rfl,OA⟩:=A13;have hOA:=OA.len;have pOA:=OA.own.pre;refine RS.nm ?_;refine RS.nil ⟨x13,?_⟩;refine RX.eff ?_;refine RS.call E190 (numW _ (by omega) _) rfl (fun v14 w14 x14 A14=>?_);have zw14:=x14.size;obtain⟨a14,n14,c14,rfl,OB⟩:=A14;have hOB:=OB.len;have pOB:=OB.own.pre;refine RS.nm ?_;refine RS.nil ⟨x14,?_⟩;refine RX.eff ?_
 refine RS.buildSlice (xs:=[.tmp 17, .tmp 22, .tmp 27]) (vs:=[.slice _ _ _, .slice _ _ _, .slice _ _ _]) (cs:=[.slice _ _ _, .slice _ _ _, .slice _ _ _]) V327 T48 (by decide) rfl rfl rfl rfl rfl rfl (by intro v hv;simp only[List.mem_cons,List.not_mem_nil,or_false]at hv;rcases hv with rfl|rfl|rfl<;>rfl) rfl (fun b15 w15 e15 s15 x15 B15=>?_);refine RS.nm ?_;refine RS.nil ⟨x15,?_⟩;refine RX.eff ?_;replace OM:=(((OM.ext x12).ext x13).ext x14).ext x15;replace OA:=(OA.ext x14).ext x15;replace OB:=OB.ext x15;refine RS.call E189 (concat [⟨a10,n10,c10,S.msgS o⟩,⟨a13,n13,c13,S.numS o.e⟩,⟨a14,n14,c14,S.numS o.s⟩] _ _ _ _ (PRow.of_blkE B15 rfl rfl ⟨⟨_,OM.row,pOM⟩,⟨_,OA.row,pOA⟩,⟨_,OB.row,pOB⟩,trivial⟩) (show(3:Nat)≤1000 by decide) (by simp[cat];omega)) rfl (fun v16 w16 x16 A16=>?_);obtain⟨a16,n16,c16,rfl,O1⟩:=A16;have ecat:cat [⟨a10,n10,c10,S.msgS o⟩,⟨a13,n13,c13,S.numS o.e⟩,⟨a14,n14,c14,S.numS o.s⟩]=S.encS o:=by simp[cat,S.encS]
 rw[ecat]at O1;refine RS.nm ?_;refine RS.nil ⟨x16,?_⟩;refine RX.assign (v:= .slice _ _ _) rfl ?_;refine RX.assign (v:= .int .i64 0) rfl ?_;refine RX.nil (J11 _ _ ?_);refine wp_ret ?_;refine retSI ?_;replace hE:=Ext.tr (Ext.tr (Ext.tr (Ext.tr (Ext.tr (Ext.tr hE x10) x12) x13) x14) x15) x16;exact⟨_,rfl,hE,_,_,_,_,by rw[hz],O1.base (fun k hk=>by have:=O1.lo k hk;omega),(if_pos hz).symm⟩
theorem bytesOR{S0:Nat→Prop}(o:S.OpV)(ho:o.ok)(pa:Option Addr)(pc:Nat)(w:World)(D0:WRow .u8 32 S0 w pa o.n o.ids)(hc:o.n≤pc)(h4:o.n≤4)(hF:o.k=4→S.FineV o.vk o.num o.bits o.t):
  Calls prog 113 #[.agg ([.int .u32 o.au, .slice pa o.n pc, .int .u64 o.st, .int .u8 o.k, .string o.key, .int .u8 o.vk, .int .i64 o.num, .int .u64 o.bits, .string o.t, .int .u32 o.e, .int .u32 o.s]:List Value).toArray] w (Ret w fun v w'=>∃a' n' c',v= .slice a' n' c'∧IOwn w.heap.size w' 5 .u8 a' n' c' (S.encS o)):=by
 replace D0:=D0.weaken (T:=fun k=>k<w.heap.size) (fun k hk _=>hk);have o7:=ho.e;have o8:=ho.s;have e4:=D0.len;have e7:=S.numS_len o.e;have e8:=S.numS_len o.s;have hml:=S.msg_len o ho h4 e4;refine eE 16 func113 rfl rfl fun hE=>?_
 refine sq fun _ J1=>?_
 refine RS.box rfl rfl (fun b2 w2 e2 s2 x2 B2=>?_);refine RS.nm ?_;refine RS.asS rfl (nl J1 (wx fun _ J3=>?_));refine regionX (Below w2.heap.size) [(0, .q),(2, .q),(3, .q),(4, .q),(5, .q),(8, .q),(9, .q),(10, .q),(11, .q),(1, .e),(6, .e),(7, .e),(12, .e),(13, .g),(14, .q)] mixed (fun w=>Below.refl _ _) (fun h k=>Below.trans h k) (by kernel_rfl) (fun w4 x4=>?_);have zw4:=x4.size;replace B2:=B2.ext x4;refine RX.o (fun w' hw=>D.loadAgg rfl V37 rfl C37 (by decide) rfl ((B2.bel hw (by omega)).cellsN 11 rfl)) ?_;refine RX.fl 9 V37 rfl C35 ?_;refine RX.fl 9 V35 rfl C28 ?_;refine RX.o (fun w' hw=>D.load rfl V28 rfl ((B2.bel hw (by omega)).cell rfl)) ?_;refine RX.o (fun w' hw=>D.conv rfl V28 V29 (W.u64 (by omega))) ?_;refine RX.fl 9 V37 rfl C35 ?_;refine RX.fl 10 V35 rfl C28 ?_;refine RX.o (fun w' hw=>D.load rfl V28 rfl ((B2.bel hw (by omega)).cell rfl)) ?_;refine RX.o (fun w' hw=>D.conv rfl V28 V29 (W.u64 (by omega))) ?_;refine RX.eff ?_;replace D0:=(D0.ext x2).ext x4;refine RS.call E92 (textOR o ho _ _ _ D0 hc h4 hF) rfl (fun v5 w5 x5 A5=>?_);have zw5:=x5.size;obtain⟨a5,n5,c5,rfl,O1⟩:=A5;have hO1:=O1.len;refine RS.nm ?_;refine RS.nil ⟨(x5.mono (by omega)),?_⟩;refine RX.eff ?_;refine RS.call E180 (numR _ (by omega) _) rfl (fun v6 w6 x6 A6=>?_);have zw6:=x6.size;obtain⟨a6,n6,c6,rfl,O2⟩:=A6;have hO2:=O2.len;refine RS.nm ?_;refine RS.nil ⟨(x6.mono (by omega)),?_⟩;refine RX.eff ?_;replace O1:=O1.ext x6;refine RS.appendI O1 O2.row rfl rfl V48 T5 rfl (by omega) (by decide) (by omega) (fun a7 c7 w7 N7 x7=>?_);refine RS.nm ?_;replace hE:=Ext.tr (Ext.tr (Ext.tr (Ext.tr hE x2) x4) x5) x6;replace hE:=hE.trans (x7.belQ (fun _ h=>(O1.lo _ h).1));replace D0:=(D0.ext x5).ext x6;replace D0:=D0.prQ x7 (fun _ h=>(O1.lo _ h).1);replace B2:=(B2.ext x5).ext x6;replace B2:=B2.prQ x7 (fun _ h=>(O1.lo _ h).1);have zw7:=x7.size;have lr7:Below w2.heap.size w6 w7:=x7.belQ (fun _ h=>(O1.own.lo _ h).1)
 replace O1:=N7;refine RS.nm ?_;have hO3:=O1.len;refine RS.nil ⟨(lr7),?_⟩;refine RX.eff ?_;refine RS.call E180 (numR _ (by omega) _) rfl (fun v8 w8 x8 A8=>?_);have zw8:=x8.size;obtain⟨a8,n8,c8,rfl,O2⟩:=A8;have hO2:=O2.len;refine RS.nm ?_;refine RS.nil ⟨(x8.mono (by omega)),?_⟩;refine RX.big ?_;replace O1:=O1.ext x8;refine RS.appendI O1 O2.row rfl rfl V48 T5 rfl (by omega) (by decide) (by omega) (fun a9 c9 w9 N9 x9=>?_);refine RS.nm ?_;replace hE:=Ext.tr hE x8;replace hE:=hE.trans (x9.belQ (fun _ h=>(O1.lo _ h).1));replace D0:=D0.ext x8;replace D0:=D0.prQ x9 (fun _ h=>(O1.lo _ h).1);replace B2:=B2.ext x8;replace B2:=B2.prQ x9 (fun _ h=>(O1.lo _ h).1);replace O1:=N9;refine RS.nil ?_;refine RX.assign (v:= .slice _ _ _) rfl ?_;refine RX.nil (J3 _ _ ?_);refine wp_ret ?_;refine retS ?_;exact⟨_,rfl,hE,_,_,_,rfl,O1.base (fun k hk=>by have:=O1.lo k hk;omega)⟩
theorem ofO{S0:Nat→Prop}(o:S.OpV)(ho:o.ok)(pa:Option Addr)(pc:Nat)(w:World)(D0:WRow .u8 32 S0 w pa o.n o.ids)(hc:o.n≤pc)(h4:o.n≤4)(hF:o.k=4→S.FineV o.vk o.num o.bits o.t):
  Calls prog 30 #[.agg ([.int .u32 o.au, .slice pa o.n pc, .int .u64 o.st, .int .u8 o.k, .string o.key, .int .u8 o.vk, .int .i64 o.num, .int .u64 o.bits, .string o.t, .int .u32 o.e, .int .u32 o.s]:List Value).toArray] w (Ret w fun v _=>v= .agg (ints .u8 (S.sha (S.encS o))).toArray):=by
 replace D0:=D0.weaken (T:=fun k=>k<w.heap.size) (fun k hk _=>hk);have e4:=D0.len;have e7:=S.numS_len o.e;have e8:=S.numS_len o.s;have hml:=S.msg_len o ho h4 e4;have hel:(S.encS o).length≤418:=by unfold S.encS;rw[List.length_append,List.length_append];omega
 refine eE 5 func30 rfl rfl fun hE=>?_
 refine sq fun _ J1=>?_
 refine RS.box rfl rfl (fun b2 w2 e2 s2 x2 B2=>?_);refine RS.nm ?_;refine RS.alloc T24 (fun b3 w3 e3 s3 x3 B3=>?_);refine RS.nm ?_;have A3:IArr .u8 w3 b3 32 (List.replicate 32 0) [] 24:=IArr.zero B3;clear B3;refine nl J1 (sq fun _ J4=>?_);replace B2:=B2.ext x3;refine RS.la V37 C37 B2 11 ?_;replace D0:=(D0.ext x2).ext x3;refine RS.call E113 (bytesOR o ho _ _ _ D0 hc h4 hF) rfl (fun v5 w5 x5 A5=>?_);obtain⟨a5,n5,c5,rfl,O1⟩:=A5;have hO1:=O1.len;refine RS.nm ?_;refine RS.call E112 (of _ _ _ _ _ O1.row (by omega) O1.own.pre) rfl (fun v6 w6 x6 A6=>?_);subst A6;have hsa:=S.sha_arr (S.encS o);refine RS.nm ?_;replace A3:=(A3.ext x5).ext x6;refine RS.sr A3 C24 (fun w7 y7 N7=>?_);replace O1:=O1.ext x6;replace O1:=O1.stQ y7 (fun _ h=>(O1.own.lo _ h).1);replace A3:=N7;refine nl J4 (wp_ret ?_);refine ret (rs:=[.cell 2 24]) (vs:=[.agg _]) (v:=(.agg _)) rfl ⟨⟨_,rfl,loadVar_agg V24 rfl C24 (by decide) (by rw[ints_length,A3.len]) A3.cells⟩,trivial⟩ rfl ?_;replace hE:=(Ext.tr (Ext.tr (Ext.tr (Ext.tr hE x2) x3) x5) x6).trans y7.belo;exact⟨_,rfl,hE,rfl⟩
theorem idO{S0:Nat→Prop}(o:S.OpV)(ho:o.ok)(pa:Option Addr)(pc:Nat)(TK:TypeId)(w:World)(K0:Kst w TK)(D0:WRow .u8 32 S0 w pa o.n o.ids)(hc:o.n≤pc):
  Calls prog 98 #[.agg ([.int .u32 o.au, .slice pa o.n pc, .int .u64 o.st, .int .u8 o.k, .string o.key, .int .u8 o.vk, .int .i64 o.num, .int .u64 o.bits, .string o.t, .int .u32 o.e, .int .u32 o.s]:List Value).toArray] w (Ret w fun v _=>v= .tuple #[.agg (ints .u8 (if S.checkE o=0 then S.sha (S.encS o)else List.replicate 32 0)).toArray, .int .i64 (S.checkE o)]):=by
 replace D0:=D0.weaken (T:=fun k=>k<w.heap.size) (fun k hk _=>hk);have e4:=D0.len;have e7:=S.numS_len o.e;have e8:=S.numS_len o.s;have hz0:=Arr.zeros .u8 32;refine eE 18 func98 rfl rfl fun hE=>?_
 refine sq fun _ J1=>?_
 refine RS.box rfl rfl (fun b2 w2 e2 s2 x2 B2=>?_);refine RS.nm ?_;refine RS.alloc T24 (fun b3 w3 e3 s3 x3 B3=>?_);refine RS.nm ?_;have A3:IArr .u8 w3 b3 32 (List.replicate 32 0) [] 24:=IArr.zero B3;clear B3;refine RS.asI rfl ?_;refine nl J1 (sq fun _ J4=>?_);replace B2:=B2.ext x3;refine RS.la V37 C37 B2 11 ?_;replace D0:=(D0.ext x2).ext x3;refine RS.call E97 (encodeO o ho _ _ _ D0 hc) rfl (fun v5 w5 x5 A5=>?_);obtain⟨a5,n5,c5,xs,rfl,O1,hxs⟩:=A5;refine RS.nm ?_;refine RS.move (v:= .tuple _) rfl ?_;refine RS.exS ?_;refine RS.exI ?_;refine RS.asS rfl (RS.asI rfl (nl J4 (wx fun _ J6=>sq fun _ J7=>RS.mvI rfl ?_)));refine RS.on ?_;refine nl J7 ?_;replace hE:=Ext.tr (Ext.tr (Ext.tr hE x2) x3) x5;replace A3:=A3.ext x5;refine C.ifn rfl (fun c8=>?_) (fun c8=>?_)
 ·have hnz:=c8;refine sq fun _ J9=>?_
  refine RS.o (D.build0 V24 T24 C5) ?_;refine RS.mvI rfl ?_;refine RS.sr A3 C24 (fun w10 y10 N10=>?_);replace O1:=O1.stQ y10 (fun _ h=>(O1.own.lo _ h).1);replace A3:=N10;refine RS.asI rfl (nl J9 (wp_ret ?_));refine ret (rs:=[.cell 2 24, .tmp 3]) (vs:=[.agg _, .int _ _]) (v:=(.tuple #[.agg _, .int _ _])) rfl ⟨⟨_,rfl,loadVar_agg V24 rfl C24 (by decide) (by rw[ints_length,A3.len]) A3.cells⟩,rfl,trivial⟩ rfl ?_;rw[if_neg hnz];replace hE:=hE.trans y10.belo;exact⟨_,rfl,hE,rfl⟩
 have hz:=c8;obtain⟨q1,q2,q3⟩:=S.check_zero.1 hz;have hml:=S.msg_len o ho q1 e4;have hel:(S.encS o).length≤418:=by unfold S.encS;rw[List.length_append,List.length_append];omega
 rw[if_pos hz]at hxs;subst hxs;refine wp_skip (J6 _ _ (sq fun _ J11=>RS.mvS rfl ?_));replace K0:=((K0.ext x2).ext x3).ext x5;refine RS.call E191 (sum _ _ _ _ _ _ K0 O1.row O1.own.pre (by have:=O1.len;omega)) rfl (fun v12 w12 x12 A12=>?_);subst A12;have hsa:=S.sha_arr (S.encS o);refine RS.nm ?_;refine RS.exA ?_;refine RS.exI ?_;replace A3:=A3.ext x12;refine RS.sr A3 C24 (fun w13 y13 N13=>?_);replace O1:=O1.ext x12;replace O1:=O1.stQ y13 (fun _ h=>(O1.own.lo _ h).1);replace A3:=N13;refine RS.asI rfl (nl J11 (wp_ret ?_));refine ret (rs:=[.cell 2 24, .tmp 3]) (vs:=[.agg _, .int _ _]) (v:=(.tuple #[.agg _, .int _ _])) rfl ⟨⟨_,rfl,loadVar_agg V24 rfl C24 (by decide) (by rw[ints_length,A3.len]) A3.cells⟩,rfl,trivial⟩ rfl ?_;rw[if_pos hz,hz];replace hE:=(Ext.tr hE x12).trans y13.belo;exact⟨_,rfl,hE,rfl⟩
end W
namespace S
open G
def by4(n:Int):List Int:=[n / 2 ^ (24:Int).toNat % 256,n / 2 ^ (16:Int).toNat % 256,n / 2 ^ (8:Int).toNat % 256,n % 256]
def headS(kind:Int)(l:List Int):List Int:=kind::l.flatMap by4
theorem by4_len(n:Int):(by4 n).length=4:=rfl
theorem head_snoc(kind:Int)(l:List Int)(i:Nat)(h:i<l.length):headS kind (l.take (i+1))=headS kind (l.take i)++by4 (l.getD i 0):=by
 unfold headS;rw[take_snoc l i h,List.flatMap_append,List.cons_append];simp
theorem head_len(kind:Int):∀l:List Int,(headS kind l).length=1+4*l.length
 |[]=>rfl
 |x::l=>by
  have:=head_len kind l;simp only[headS,List.length_cons,List.flatMap_cons,List.length_append,by4_len]at*;omega
def hashS(kind:Int)(l m:List Int):Int:=be ((sha (headS kind l++m)).take 8)
theorem be_step(xs:List Int)(i:Nat)(hB:Bd .u8 xs)(hi:i<8)(hl:8≤xs.length):ior (be (xs.take i)*2 ^ (8:Int).toNat % 18446744073709551616) (xs.getD i 0)=be (xs.take (i+1)):=by
 have hb:=be_bd _ (hB.take i);have hx:=hB.get i;simp only[lim]at hx;have hp:(256:Int) ^ (xs.take i).length≤256 ^ 7:=pow256 (by simp;omega);have h256:(256:Int) ^ 7=72057594037927936:=by decide
 have h8:(2:Int) ^ (8:Int).toNat=256:=by decide
 rw[take_snoc xs i (by omega),be_snoc,h8,Int.emod_eq_of_lt (by omega) (by omega)];exact ior_add _ _ hb.1 hx
theorem be8_lt(xs:List Int)(i:Nat)(hB:Bd .u8 xs)(hi:i≤8):0≤be (xs.take i)∧be (xs.take i)<18446744073709551616:=by
 have hb:=be_bd _ (hB.take i);have hp:(256:Int) ^ (xs.take i).length≤256 ^ 8:=pow256 (by simp;omega);have h256:(256:Int) ^ 8=18446744073709551616:=by decide
 omega
theorem hash_bd(kind:Int)(l m:List Int):0≤hashS kind l m∧hashS kind l m<18446744073709551616:=be8_lt _ 8 (sha_arr _).2 (Nat.le_refl _)
def nonceS(x:Int)(m:List Int):Int:=hashS 110 [x] m % 500000002+1
def chalS(r y:Int)(m:List Int):Int:=hashS 99 [r,y] m % 500000003
theorem nonce_bd(x:Int)(m:List Int):1≤nonceS x m∧nonceS x m<500000003:=by unfold nonceS;omega
theorem chal_bd(r y:Int)(m:List Int):0≤chalS r y m∧chalS r y m<500000003:=by unfold chalS;omega
def pubS(x:Int):Int:=pw 4 x 1000000007
def sigE(x:Int)(m:List Int):Int:=chalS (pubS (nonceS x m)) (pubS x) m
def sigS(x:Int)(m:List Int):Int:=(nonceS x m+sigE x m*x % 500000003) % 500000003
def secE(x:Int):Int:=if 0<x∧x<500000003 then 0 else 2
def verS(y:Int)(m:List Int)(e s:Int):Int:=
 if isG y=false then 2 else if 9991<m.length then 4 else if ¬(e<500000003∧s<500000003)then 22
 else if chalS (pubS s*pw y (500000003 - e) 1000000007 % 1000000007) y m=e then 0 else 22
def fpw:Nat→Int→Int→Int→Int→Int
 |0,_,_,r,m=>r % m
 |f+1,a,n,r,m=>if n % 2=1 then fpw f (a*a % m) (n / 2) (r*a % m) m else fpw f (a*a % m) (n / 2) r m
theorem fpw_eq:∀(f:Nat) (a n r m:Int),0≤n→n<2 ^ f→fpw f a n r m=r*a ^ n.toNat % m
 |0,a,n,r,m,h0,h=>by
  obtain rfl:n=0:=by simp at h;omega
  simp[fpw]
 |f+1,a,n,r,m,h0,h=>by
  have h2:n / 2<2 ^ f:=by rw[Int.pow_succ]at h;omega
  rw[fpw];split
  ·rename_i ho;rw[fpw_eq f _ _ _ _ (by omega) h2,power_odd a r m n h0 ho]
  ·rename_i ho;rw[fpw_eq f _ _ _ _ (by omega) h2,power_even a r m n h0 ho]
theorem pw_fast(a n m:Int)(h0:0≤n)(h:n<1073741824):pw a n m=fpw 30 a n 1 m:=by
 rw[fpw_eq 30 a n 1 m h0 h,pw,Int.one_mul]
theorem pw_pw(a x n m:Int)(hx:0≤x)(hn:0≤n):pw (pw a x m) n m=pw a (x*n) m:=by
 unfold pw;rw[mod_pow,←Int.pow_mul,Int.toNat_mul hx hn]
theorem pw_add(a x n m:Int)(hx:0≤x)(hn:0≤n):pw a x m*pw a n m % m=pw a (x+n) m:=by
 unfold pw;rw[←Int.mul_emod,←Int.pow_add,Int.toNat_add hx hn]
theorem pw_cyc(a q t m:Int)(hm:1<m)(hq:0≤q)(ht:0≤t)(h:pw a q m=1):pw a (q*t) m=1:=by
 rw[←pw_pw a q t m hq ht,h,pw,Int.one_pow];exact Int.emod_eq_of_lt (by omega) hm
theorem pw_mod(a q n m:Int)(hm:1<m)(hq:0<q)(hn:0≤n)(h:pw a q m=1):pw a n m=pw a (n % q) m:=by
 have h1:=Int.emod_nonneg n (show q≠0 by omega);have h2:0≤n / q:=Int.ediv_nonneg hn (by omega);have h3:=pw_nonneg a (n % q) m (by omega);have h4:=pw_lt a (n % q) m (by omega);have e:n=q*(n / q)+n % q:=(Int.mul_ediv_add_emod n q).symm
 conv=>lhs;rw[e]
 rw[←pw_add a _ _ m (Int.mul_nonneg (by omega) h2) h1,pw_cyc a q _ m hm (by omega) h2 h,Int.one_mul];exact Int.emod_eq_of_lt h3 h4
theorem gen_one:pw 4 500000003 1000000007=1:=by
 rw[pw_fast _ _ _ (by decide) (by decide)];decide+kernel
theorem isG_of(a q:Int)(hq:q=500000003)(h0:0≤a)(h1:a<1000000007)(h:pw a q 1000000007=1):isG a=true:=by
 have h2:0<a:=by
  rcases Int.lt_or_eq_of_le h0 with h2|h2
  ·exact h2
  ·rw[←h2]at h;unfold pw at h;rw[Int.zero_pow (by omega)]at h;simp at h
 rw[isG_true h2 h1,←hq,h];rfl
theorem isG_one{a:Int}(h:isG a=true):pw a 500000003 1000000007=1:=by
 have hb:=isG_bd h;rw[isG_true hb.1 hb.2]at h;exact eq_of_beq h
theorem isG_pw(a n q:Int)(hq:q=500000003)(h1:pw a q 1000000007=1)(hn:0≤n):isG (pw a n 1000000007)=true:=by
 refine isG_of _ q hq (pw_nonneg _ _ _ (by decide)) (pw_lt _ _ _ (by decide)) ?_;rw[pw_pw a n q _ hn (by omega),Int.mul_comm,pw_cyc a q n _ (by decide) (by omega) hn h1]
theorem isG_pub(n:Int)(hn:0≤n):isG (pubS n)=true:=isG_pw 4 n _ rfl gen_one hn
theorem isG_back{a:Int}(n:Int)(h:isG a=true)(hn:0≤n):isG (pw a n 1000000007)=true:=isG_pw a n _ rfl (isG_one h) hn
theorem ver_go(k x e q:Int)(hq:0<q)(h1:pw 4 q 1000000007=1)(hk:0≤k∧k<q)(hx:0≤x)(he:0≤e∧e≤q):
  pubS ((k+e*x % q) % q)*pw (pubS x) (q - e) 1000000007 % 1000000007=pubS k:=by
 unfold pubS;have hm:=Int.emod_nonneg (k+e*x % q) (show q≠0 by omega);have hxe:0≤x*(q - e):=Int.mul_nonneg hx (by omega);rw[pw_pw 4 x _ _ hx (by omega),pw_add 4 _ _ _ hm hxe,pw_mod 4 q _ _ (by decide) hq (by omega) h1,pw_mod 4 q k _ (by decide) hq hk.1 h1];congr 1;have e1:(k+e*x % q) % q=(k+e*x) % q:=by rw[Int.add_emod,Int.emod_emod_of_dvd _ (Int.dvd_refl q),←Int.add_emod]
 have e2:k+e*x+x*(q - e)=k+x*q:=by rw[Int.mul_sub,Int.mul_comm e x];omega
 rw[e1,Int.emod_add_emod,e2,Int.add_mul_emod_self_right]
theorem ver_sig(x:Int)(m:List Int)(hx:0<x∧x<500000003)(hm:m.length≤9991):verS (pubS x) m (sigE x m) (sigS x m)=0:=by
 have h1:sigE x m<500000003∧sigS x m<500000003:=⟨(chal_bd _ _ _).2,by unfold sigS;omega⟩
 unfold verS;rw[if_neg (by rw[isG_pub x (by omega)];simp),if_neg (by omega),if_neg (fun h=>h h1),if_pos];have hk:=nonce_bd x m;have he:=chal_bd (pubS (nonceS x m)) (pubS x) m;have:=ver_go (nonceS x m) x (sigE x m) _ (by decide) gen_one (by omega) (by omega) ⟨he.1,Int.le_of_lt he.2⟩;unfold sigS;rw[this];rfl
theorem sig_bd(x:Int)(m:List Int):(0≤sigE x m∧sigE x m<500000003)∧0≤sigS x m∧sigS x m<500000003:=⟨chal_bd _ _ _,by unfold sigS;omega⟩
def OpV.zero:OpV:=⟨0,0,0,0,0,0,0,0,0,[], .empty, .empty⟩
theorem OpV.zero_ok:OpV.zero.ok:=⟨by decide,by decide,by decide,by decide,by decide,by decide,by decide,by decide,by decide,by decide,by decide⟩
def OpV.wit(o:OpV)(x:Int):OpV:= {o with au:=pubS x}
def signE(x:Int)(o:OpV):Int:=if secE x=0 then checkE (o.wit x).bare else 2
def signS(x:Int)(o:OpV):OpV:=if signE x o=0 then {o.wit x with e:=sigE x (msgS (o.wit x)),s:=sigS x (msgS (o.wit x))}else OpV.zero
def verE(o:OpV):Int:=if checkE o=0 then verS o.au (msgS o) o.e o.s else checkE o
theorem pub_bd(x:Int):0≤pubS x∧pubS x<1000000007:=⟨pw_nonneg _ _ _ (by decide),pw_lt _ _ _ (by decide)⟩
theorem OpV.wit_ok{o:OpV}(x:Int)(h:o.ok):(o.wit x).ok:=⟨by have:=pub_bd x;show 0≤pubS x∧pubS x<4294967296;omega,h.st,h.k,h.vk,h.num,h.bits,h.e,h.s,h.n,h.key,h.t⟩
theorem secE_zero{x:Int}:secE x=0↔0<x∧x<500000003:=by unfold secE;split<;>simp_all
theorem signE_zero{x:Int}{o:OpV}:signE x o=0↔(0<x∧x<500000003)∧checkE (o.wit x).bare=0:=by
 unfold signE;rw[←secE_zero];split<;>simp_all
theorem sign_good{x:Int}{o:OpV}(ho:o.ok)(hl:o.ids.length=32*o.n)(h:signE x o=0):(signS x o).au=pubS x∧(signS x o).st=o.st∧checkE (signS x o)=0∧checkE (signS x o).bare=0∧msgS (signS x o)=msgS (o.wit x)∧verS (pubS x) (msgS (o.wit x)) (signS x o).e (signS x o).s=0∧verE (signS x o)=0:=by
 have e:signS x o= {o.wit x with e:=sigE x (msgS (o.wit x)),s:=sigS x (msgS (o.wit x))}:=by unfold signS;rw[if_pos h]
 obtain⟨hx,hc⟩:=signE_zero.1 h;have hb:=sig_bd x (msgS (o.wit x));obtain⟨c1,c2,c3⟩:=check_zero.1 hc;have hz:checkE (signS x o)=0:=by
  rw[e];exact check_zero.2 ⟨c1,c2,c3.1,c3.2.1,hb.1.2,hb.2.2,c3.2.2.2.2⟩
 have hz2:checkE (signS x o).bare=0:=by rw[e];exact hc
 have hv:verS (pubS x) (msgS (o.wit x)) (sigE x (msgS (o.wit x))) (sigS x (msgS (o.wit x)))=0:=ver_sig x _ hx (by have:=msg_len (o.wit x) (OpV.wit_ok x ho) c1 hl;omega);have hm:msgS (signS x o)=msgS (o.wit x):=by rw[e];rfl
 refine⟨by rw[e];rfl,by rw[e];rfl,hz,hz2,hm,?_,?_⟩
 ·rw[e];exact hv
 ·unfold verE;rw[if_pos hz,hm,e];exact hv
theorem pub_eq(x:Int):pw 4 x 1000000007=pubS x:=rfl
theorem nonce_eq(x:Int)(m:List Int):hashS 110 [x] m % 500000002+1=nonceS x m:=rfl
theorem chal_eq(r y:Int)(m:List Int):hashS 99 [r,y] m % 500000003=chalS r y m:=rfl
theorem hash_eq(kind:Int)(l m:List Int):be ((sha (headS kind l++m)).take 8)=hashS kind l m:=rfl
theorem sigE_eq(x:Int)(m:List Int):chalS (pubS (nonceS x m)) (pubS x) m=sigE x m:=rfl
theorem sigS_eq(x:Int)(m:List Int):(nonceS x m+sigE x m*x % 500000003) % 500000003=sigS x m:=rfl
theorem secE_two{x:Int}(h:¬secE x=0):secE x=2:=by
 unfold secE at*;split<;>simp_all
theorem signS_eq{x:Int}{o:OpV}(h:signE x o=0):signS x o= {o.wit x with e:=sigE x (msgS (o.wit x)),s:=sigS x (msgS (o.wit x))}:=by unfold signS;rw[if_pos h]
theorem check_bare{o:OpV}(h:checkE o=0):checkE o.bare=0:=by
 obtain⟨q1,q2,q3⟩:=check_zero.1 h;exact check_zero.2 ⟨q1,q2,q3.1,q3.2.1,(by show(0:Int)<500000003;decide),(by show(0:Int)<500000003;decide),q3.2.2.2.2⟩
theorem signS_ok(x:Int)(o:OpV)(ho:o.ok):(signS x o).ok:=by
 unfold signS;split
 ·have h:=OpV.wit_ok x ho;have hb:=sig_bd x (msgS (o.wit x));refine⟨h.au,h.st,h.k,h.vk,h.num,h.bits,?_,?_,h.n,h.key,h.t⟩
  ·show 0≤sigE x _∧sigE x _<4294967296;omega
  ·show 0≤sigS x _∧sigS x _<4294967296;omega
 ·exact OpV.zero_ok
theorem rising_nil:Rising 0 []:=fun j hj=>by omega
def hashE(m:List Int):Int:=if 9991<m.length then 4 else 0
def nonceE(x:Int)(m:List Int):Int:=if secE x=0 then hashE m else 2
theorem nonceE_zero{x:Int}{m:List Int}:nonceE x m=0↔secE x=0∧hashE m=0:=by
 unfold nonceE;split<;>simp_all
attribute [irreducible] hashS nonceS chalS pubS sigE sigS
end S
namespace W
open Go.RowKit G
set_option maxRecDepth 20000
set_option maxHeartbeats 8000000
attribute [local irreducible] RS RX
theorem E185:Enters prog 185:= .mk func185 (by kernel_rfl) rfl
theorem E255:Enters prog 255:= .mk func255 (by kernel_rfl) rfl
theorem E256:Enters prog 256:= .mk func256 (by kernel_rfl) rfl
theorem E260:Enters prog 260:= .mk func260 (by kernel_rfl) rfl
theorem E261:Enters prog 261:= .mk func261 (by kernel_rfl) rfl
theorem E262:Enters prog 262:= .mk func262 (by kernel_rfl) rfl
theorem E263:Enters prog 263:= .mk func263 (by kernel_rfl) rfl
theorem E275:Enters prog 275:= .mk func275 (by kernel_rfl) rfl
theorem E276:Enters prog 276:= .mk func276 (by kernel_rfl) rfl
theorem E299:Enters prog 299:= .mk func299 (by kernel_rfl) rfl
theorem secCheck(x:Int)(hx:0≤x∧x<4294967296)(w:World):
  Calls prog 255 #[.int .u32 x] w (Ret w fun v _=>v= .int .i64 (S.secE x)):=by
 refine eE 5 func255 rfl rfl fun hE=>?_
 refine sAI rfl (wx fun _ J2=>sq fun _ J3=>RS.mvI rfl ?_);refine RS.o (D.sub rfl rfl (W.u32m _)) ?_;refine RS.oe ?_;refine nl J3 (C.ifd rfl (fun c4=>?_) (fun c4=>?_))
 ·refine sAI rfl (wp_ret ?_);refine rI hE ?_;unfold S.secE;first|rw[if_pos (by omega)]|rw[if_neg (by omega)]
 refine wp_skip (J2 _ _ (sAI rfl (wp_ret ?_)));refine rI hE ?_;unfold S.secE;first|rw[if_pos (by omega)]|rw[if_neg (by omega)]
theorem publicW(x:Int)(hx:0≤x∧x<4294967296)(w:World):
  Calls prog 185 #[.int .u32 x] w (Ret w fun v _=>v= .tuple #[.int .u32 (if S.secE x=0 then S.pubS x else 0), .int .i64 (S.secE x)]):=by
 refine eE 12 func185 rfl rfl fun hE=>?_
 refine sq fun _ J1=>RS.asI rfl (RS.asI rfl (nl J1 (wx fun _ J2=>sq fun _ J3=>RS.mvI rfl ?_)));refine RS.call E255 (secCheck _ (by omega) _) rfl (fun v4 w4 x4 A4=>?_);have zw4:=x4.size;subst A4;refine RS.nm ?_;refine RS.asI rfl ?_;refine nl J3 (sq fun _ J5=>?_);refine RS.mvI rfl ?_;refine RS.on ?_;refine nl J5 ?_;replace hE:=Ext.tr hE x4;refine C.ifn rfl (fun c6=>?_) (fun c6=>?_)
 ·have hz:=c6;refine sq fun _ J7=>RS.mvI rfl (RS.asI rfl (RS.asI rfl (nl J7 (wp_ret ?_))));refine retII ?_;refine⟨_,rfl,hE,?_⟩;rw[if_neg hz]
 have hz:=c6;refine wp_skip (J2 _ _ (sq fun _ J8=>RS.mvI rfl ?_));refine RS.cw V28 V29 ?_;refine RS.call E256 (group_Base _ (by omega) _) rfl (fun v9 w9 x9 A9=>?_);have zw9:=x9.size;subst A9;refine RS.nm ?_;refine RS.asI rfl (RS.asI rfl (nl J8 (wp_ret ?_)));refine retII ?_;replace hE:=Ext.tr hE x9;refine⟨_,rfl,hE,?_⟩;rw[if_pos hz,hz,S.pub_eq]
theorem hash{S0 S1:Nat→Prop}(kd:Int)(hkd:0≤kd∧kd<256)(a:Option Addr)(n c:Nat)(m:List Int)(a2:Option Addr)(n2 c2:Nat)(l:List Int)(TK:TypeId)(w:World)(K0:Kst w TK)(R0:IRow .u8 S0 w a n m)(hc:n≤c)(R1:IRow .u32 S1 w a2 n2 l)(hn2:n2≤5):
  Calls prog 299 #[.int .u8 kd, .slice a n c, .slice a2 n2 c2] w (Ret w fun v _=>v= .tuple #[.int .u64 (if 9991<m.length then 0 else S.hashS kd l m), .int .i64 (S.hashE m)]):=by
 replace R0:=R0.weaken (T:=fun k=>k<w.heap.size) (fun k hk _=>hk);replace R1:=R1.weaken (T:=fun k=>k<w.heap.size) (fun k hk _=>hk);have hKl:=K0.lt;have hml:=R0.len;have hll:=R1.len;refine eE 60 func299 rfl rfl fun hE=>?_
 refine sq fun _ J1=>RS.asI rfl (RS.asI rfl (nl J1 (wx fun _ J2=>sq fun _ J3=>RS.mvS rfl ?_)));refine RS.ln V48 ?_;refine RS.og ?_;refine nl J3 (C.ifd rfl (fun c4=>?_) (fun c4=>?_))
 ·have hgt:=c4;refine sq fun _ J5=>RS.asI rfl (RS.asI rfl (nl J5 (wp_ret ?_)));refine retII ?_;refine⟨_,rfl,hE,?_⟩;unfold S.hashE;rw[if_pos (by omega),if_pos (by omega)]
 have hgt:=c4;refine wp_skip (J2 _ _ (sq fun _ J6=>RS.mvI rfl ?_));refine RS.bs1 V48 T5 (fun b7 w7 e7 s7 x7 B7=>?_);refine RS.nm ?_;have zw7:=x7.size;have O1:IOwn w.heap.size w7 5 .u8 (some ⟨b7,0,none⟩) 1 1 [_]:=IOwn.of_blk B7 rfl rfl (by omega) (.cons (by simp only[lim];omega) (.nil _)) (by decide);refine RS.asS rfl (nl J6 (wx fun _ J8=>sq fun _ J9=>RS.mvS rfl ?_));refine RS.ln V360 ?_;refine RS.mvI rfl (nl J9 (wp_block ?_));refine C.loop (A:=Int×Option Addr×Nat×Nat) (fun p=>[(8, .slice p.2.1 p.2.2.1 p.2.2.2),(23, .int .i64 p.1)]) [10,24,25,26,27,28,29,30,31,32,33,34,35,36,37,38,39,40,41] (fun p w'=>Pr (fun k=>w.heap.size≤k) w7 w'∧((0≤p.1∧p.1≤n2)∧IOwn w.heap.size w' 5 .u8 p.2.1 p.2.2.1 p.2.2.2 (S.headS kd (l.take p.1.toNat)))) (fun p=>(n2 - p.1.toNat)) (0,some ⟨b7,0,none⟩,1,1) (by kernel_rfl) ?_ ?_
 ·exact⟨Pr.refl _ _,⟨by dsimp only;omega,by dsimp only;omega⟩,by simpa [S.headS]using O1⟩
 rintro p j w10 ⟨x10,hI⟩;have zw10:=x10.size;obtain⟨i,ao,no,co⟩:=p;dsimp only at hI;obtain⟨h1,O1⟩:=hI;have hol:=O1.len;rw[S.head_len,List.length_take]at hol;refine C.nmU ?_;refine sq fun _ J11=>?_
 refine RS.ol ?_;refine nl J11 (wx fun _ J12=>?_);replace hE:=(Ext.tr hE x7).trans x10.belo;replace K0:=(K0.ext x7).pro x10;replace R0:=(R0.ext x7).pro x10;refine C.ifd rfl (fun c13=>?_) (fun c13=>?_)
 ·refine wp_skip (J12 _ _ (wx fun _ J14=>wp_block (sq fun _ J15=>?_)));replace R1:=(R1.ext x7).pro x10;refine RS.idx R1 rfl rfl V360 C28 (by omega) (fun b16 o16 v16 h16 q16 r16=>?_);refine RS.nm ?_;simp only[lim]at r16;have q1:=q16;refine RS.o (D.load rfl V28 rfl (h16)) ?_;refine RS.asI rfl (nl J15 (region (RS.mvS rfl (RS.mvI rfl ?_))));refine RS.ob (D.shr_u32 rfl rfl (by omega) (by constructor<;>omega)) (fun z17=>?_);refine RS.o (D.conv rfl V28 V5 (W.u8m _)) ?_;refine RS.mvI rfl ?_;refine RS.ob (D.shr_u32 rfl rfl (by omega) (by constructor<;>omega)) (fun z18=>?_);refine RS.o (D.conv rfl V28 V5 (W.u8m _)) ?_;refine RS.mvI rfl ?_;refine RS.ob (D.shr_u32 rfl rfl (by omega) (by constructor<;>omega)) (fun z19=>?_);refine RS.o (D.conv rfl V28 V5 (W.u8m _)) ?_;refine RS.mvI rfl ?_;refine RS.o (D.conv rfl V28 V5 (W.u8m _)) ?_;refine RS.buildSlice (xs:=[.tmp 30, .tmp 33, .tmp 36, .tmp 38]) (vs:=[.int _ _, .int _ _, .int _ _, .int _ _]) (cs:=[.int _ _, .int _ _, .int _ _, .int _ _]) V48 T5 (by decide) rfl rfl rfl rfl rfl rfl (by intro v hv;simp only[List.mem_cons,List.not_mem_nil,or_false]at hv;rcases hv with rfl|rfl|rfl|rfl<;>rfl) rfl (fun b20 w20 e20 s20 x20 B20=>?_);refine RS.nm ?_;have Q1:IRow .u8 (fun k=>k=b20) w20 (some ⟨b20,0,none⟩) 4 [_,_,_,_]:=IRow.of_blk B20 rfl rfl rfl (.cons (by simp only[lim];omega) (.cons (by simp only[lim];omega) (.cons (by simp only[lim];omega) (.cons (by simp only[lim];omega) (.nil _)))));replace O1:=O1.ext x20;refine RS.appendI O1 Q1 rfl rfl V48 T5 rfl (by omega) (by decide) (by omega) (fun a21 c21 w21 N21 x21=>?_);refine RS.nm ?_;replace hE:=Ext.tr hE x20;replace hE:=hE.trans (x21.belQ (fun _ h=>(O1.lo _ h).1));replace x10:=x10.ext x20;replace x10:=x10.prnQ x21 (fun _ h=>(O1.lo _ h).1);replace K0:=K0.ext x20;replace K0:=K0.prQ x21 (fun _ h=>(O1.lo _ h).1);replace R0:=R0.ext x20;replace R0:=R0.prQ x21 (fun _ h=>(O1.lo _ h).1)
  replace R1:=R1.ext x20;replace R1:=R1.prQ x21 (fun _ h=>(O1.lo _ h).1);replace O1:=N21;refine RS.asS rfl (nl J14 (region ?_));refine RS.adi ?_;refine RS.mvI rfl (RS.nil ?_);change Nx _ _ _ _ _ _ _ _;refine C.next (i+1,_,_,_) ⟨rfl,rfl,trivial⟩ (by kernel_rfl) ?_ ?_
  ·refine⟨x10,⟨by dsimp only;omega,by dsimp only;omega⟩,?_⟩;dsimp only;rw[show(i+1).toNat=i.toNat+1 by omega,S.head_snoc _ _ _ (by omega),←q1];exact O1
  dsimp only;omega
 refine wp_exit (J8 _ _ (sq fun _ J22=>RS.mvS rfl (RS.mvS rfl ?_)));refine RS.buildSlice (xs:=[.tmp 43, .tmp 44]) (vs:=[.slice _ _ _, .slice _ _ _]) (cs:=[.slice _ _ _, .slice _ _ _]) V327 T48 (by decide) rfl rfl rfl rfl rfl rfl (by intro v hv;simp only[List.mem_cons,List.not_mem_nil,or_false]at hv;rcases hv with rfl|rfl<;>rfl) rfl (fun b23 w23 e23 s23 x23 B23=>?_);refine RS.nm ?_;have el:l.take i.toNat=l:=List.take_of_length_le (by omega);replace O1:=O1.ext x23;rw[el]at O1;have pO1:=O1.own.pre;have hpp:cat [⟨ao,no,co,S.headS kd l⟩,⟨a,n,c,m⟩]=S.headS kd l++m:=by simp[cat]
 have hhl:=S.head_len kd l;replace K0:=K0.ext x23;replace R0:=R0.ext x23;refine RS.call E268 (pieces [⟨ao,no,co,S.headS kd l⟩,⟨a,n,c,m⟩] _ _ _ _ _ K0 (PRow.of_blkE B23 rfl rfl ⟨⟨_,O1.row,pO1⟩,⟨_,R0,hc⟩,trivial⟩) (show(2:Nat)≤20 by decide) (by intro p hp;simp only[List.mem_cons,List.not_mem_nil,or_false]at hp;rcases hp with rfl|rfl<;>(dsimp only;omega)) (by rw[hpp,List.length_append];omega)) rfl (fun v24 w24 x24 A24=>?_);have zw24:=x24.size;subst A24;rw[hpp];have hsa:=S.sha_arr (S.headS kd l++m);refine RS.nm ?_;refine RS.move (v:= .tuple _) rfl ?_;refine RS.exA ?_;refine RS.exI ?_;refine RS.alloc T24 (fun b25 w25 e25 s25 x25 B25=>?_);refine RS.nm ?_;have A25:IArr .u8 w25 b25 32 (List.replicate 32 0) [] 24:=IArr.zero B25;clear B25;refine RS.storeArr A25 rfl rfl C24 (by decide) hsa.1 hsa.2 (fun w26 y26 N26=>?_);have zw26:=y26.size;replace A25:=N26;refine RS.asI rfl ?_;refine nl J22 (sq fun _ J27=>?_);refine RS.asI rfl (nl J27 (wx fun _ J28=>sq fun _ J29=>?_));refine RS.o (D.sliceArr (kl:= .i64) (kh:= .i64) rfl V24 C5 rfl rfl (by omega)) ?_;refine RS.ln V48 ?_;refine RS.mvI rfl (nl J29 (wp_block ?_));refine C.loop (A:=Int×Int) (fun p=>[(13, .int .u64 p.2),(51, .int .i64 p.1)]) [15,52,53,54,55,56,57,58,59,60] (fun p w'=>Ext w26 w'∧((0≤p.1∧p.1≤8)∧p.2=S.be ((S.sha (S.headS kd l++m)).take p.1.toNat))) (fun p=>(8 - p.1.toNat)) (0,0) (by kernel_rfl) ?_ ?_
 ·exact⟨Ext.refl _,⟨by dsimp only;omega,by dsimp only;omega⟩,rfl⟩
 rintro p j w30 ⟨x30,hI⟩;obtain⟨i,r⟩:=p;dsimp only at hI;obtain⟨g1,g2⟩:=hI;have g3:=S.be8_lt (S.sha (S.headS kd l++m)) i.toNat hsa.2 (by omega);rw[←g2]at g3;refine C.nmU ?_;refine sq fun _ J31=>?_
 refine RS.ol ?_;refine nl J31 (wx fun _ J32=>C.ifd rfl (fun c33=>?_) (fun c33=>?_))
 ·refine wp_skip (J32 _ _ (wx fun _ J34=>wp_block (wx fun _ J35=>?_)));replace A25:=A25.ext x30;have QI:=(A25.row (S:=fun k=>k=b25) rfl).sub 0 8 32 (by decide) (by decide) (by decide);refine region ?_;refine RS.idx QI rfl rfl V48 C5 (by omega) (fun b36 o36 v36 h36 q36 r36=>?_);refine RS.nm ?_;simp only[lim]at r36;have q2:=q36;rw[List.drop_zero,S.take_getD _ _ _ (by omega)]at q2;refine RS.o (D.load rfl V5 rfl (h36)) ?_;refine RS.asI rfl (nl J35 (region (RS.mvI rfl ?_)));refine RS.o (D.shl rfl rfl (by constructor<;>(try simp only[IntKind.bits])<;>omega) (by first|exact W.u64 (by omega)|exact W.u64m _)) ?_;refine RS.mvI rfl ?_;refine RS.o (D.conv rfl V5 V29 (by first|exact W.u64 (by omega)|exact W.u64m _)) ?_;refine RS.ob (D.bor_u64 rfl rfl (by omega) (by omega)) (fun z37=>?_);refine RS.asI rfl (nl J34 (region ?_));refine RS.adi ?_;refine RS.mvI rfl (RS.nil ?_);change Nx _ _ _ _ _ _ _ _;refine C.next (i+1,_) ⟨rfl,rfl,trivial⟩ (by kernel_rfl) ?_ ?_
  ·refine⟨x30,⟨by dsimp only;omega,by dsimp only;omega⟩,?_⟩;dsimp only;rw[show(i+1).toNat=i.toNat+1 by omega,←S.be_step _ _ hsa.2 (by omega) (by rw[hsa.1];decide),←g2,←q2];rfl
  dsimp only;omega
 refine wp_exit (J28 _ _ (sq fun _ J38=>RS.mvI rfl (RS.mvI rfl (RS.asI rfl (RS.asI rfl (nl J38 (wp_ret ?_)))))));refine retII ?_;replace hE:=Ext.tr ((Ext.tr (Ext.tr (Ext.tr hE x23) x24) x25).trans y26.belo) x30;refine⟨_,rfl,hE,?_⟩;unfold S.hashE;rw[if_neg (by omega),if_neg (by omega),g2,show i.toNat=8 by omega,S.hash_eq]
theorem nonce(x:Int)(hx:0≤x∧x<4294967296){S0:Nat→Prop}(a:Option Addr)(n c:Nat)(m:List Int)(TK:TypeId)(w:World)(K0:Kst w TK)(R0:IRow .u8 S0 w a n m)(hc:n≤c):
  Calls prog 260 #[.int .u32 x, .slice a n c] w (Ret w fun v _=>v= .tuple #[.int .u32 (if S.nonceE x m=0 then S.nonceS x m else 0), .int .i64 (S.nonceE x m)]):=by
 replace R0:=R0.weaken (T:=fun k=>k<w.heap.size) (fun k hk _=>hk);have hKl:=K0.lt;have hml:=R0.len;refine eE 26 func260 rfl rfl fun hE=>?_
 refine sq fun _ J1=>RS.asI rfl (RS.asI rfl (nl J1 (wx fun _ J2=>sq fun _ J3=>RS.mvI rfl ?_)));refine RS.call E255 (secCheck _ (by omega) _) rfl (fun v4 w4 x4 A4=>?_);have zw4:=x4.size;subst A4;refine RS.nm ?_;refine RS.asI rfl ?_;refine nl J3 (sq fun _ J5=>?_);refine RS.mvI rfl ?_;refine RS.on ?_;refine nl J5 ?_;replace hE:=Ext.tr hE x4;refine C.ifn rfl (fun c6=>?_) (fun c6=>?_)
 ·have hz:=c6;refine sq fun _ J7=>RS.mvI rfl (RS.asI rfl (RS.asI rfl (nl J7 (wp_ret ?_))));refine retII ?_;refine⟨_,rfl,hE,?_⟩;have e2:=S.secE_two hz;simp[S.nonceE,e2]
 have hz:=c6;refine wp_skip (J2 _ _ (sq fun _ J8=>RS.mvS rfl (RS.mvI rfl ?_)));refine RS.bs1 V360 T28 (fun b9 w9 e9 s9 x9 B9=>?_);refine RS.nm ?_;have zw9:=x9.size;replace K0:=(K0.ext x4).ext x9;replace R0:=(R0.ext x4).ext x9;refine RS.call E299 (hash (S1:=fun k=>k=b9) _ (by decide) _ _ _ _ _ 1 _ [x] _ _ K0 R0 hc (.of_blk B9 rfl rfl rfl (.cons (k:= .u32) (by simp only[lim];omega) (.nil _))) (by decide)) rfl (fun v10 w10 x10 A10=>?_);have zw10:=x10.size;subst A10;refine RS.nm ?_;refine RS.move (v:= .tuple _) rfl ?_;refine RS.exI ?_;refine RS.exI ?_;refine RS.asI rfl (RS.asI rfl (nl J8 (wx fun _ J11=>sq fun _ J12=>RS.mvI rfl ?_)));refine RS.on ?_;refine nl J12 ?_;replace hE:=Ext.tr (Ext.tr hE x9) x10;refine C.ifn rfl (fun c13=>?_) (fun c13=>?_)
 ·have he:=c13;refine sq fun _ J14=>RS.mvI rfl (RS.asI rfl (RS.asI rfl (nl J14 (wp_ret ?_))));refine retII ?_;refine⟨_,rfl,hE,?_⟩;have e3:¬S.nonceE x m=0:=by unfold S.nonceE;rw[if_pos hz];exact he
  rw[if_neg e3];unfold S.nonceE;rw[if_pos hz]
 have he:=c13;have hm:¬9991<m.length:=by intro h;unfold S.hashE at he;rw[if_pos h]at he;omega
 rw[if_neg hm];have hb:=S.hash_bd 110 [x] m;refine wp_skip (J11 _ _ (sq fun _ J15=>RS.mvI rfl ?_));refine RS.o (D.rem rfl rfl (by omega) (by omega)) ?_;refine RS.o (D.conv rfl V29 V28 (by first|exact W.u32 (by omega)|exact W.u32m _)) ?_;refine RS.o (D.add rfl rfl (by first|exact W.u32 (by omega)|exact W.u32m _)) ?_;refine RS.asI rfl (RS.asI rfl (nl J15 (wp_ret ?_)));refine retII ?_;refine⟨_,rfl,hE,?_⟩;have e3:S.nonceE x m=0:=by unfold S.nonceE;rw[if_pos hz];exact he
 rw[e3,if_pos rfl,S.nonce_eq]
theorem challenge(r:Int)(hr:0≤r∧r<4294967296)(y:Int)(hy:0≤y∧y<4294967296){S0:Nat→Prop}(a:Option Addr)(n c:Nat)(m:List Int)(TK:TypeId)(w:World)(K0:Kst w TK)(R0:IRow .u8 S0 w a n m)(hc:n≤c):
  Calls prog 261 #[.int .u32 r, .int .u32 y, .slice a n c] w (Ret w fun v _=>v= .tuple #[.int .u32 (if S.hashE m=0 then S.chalS r y m else 0), .int .i64 (S.hashE m)]):=by
 replace R0:=R0.weaken (T:=fun k=>k<w.heap.size) (fun k hk _=>hk);refine eE 21 func261 rfl rfl fun hE=>?_
 refine sq fun _ J1=>RS.asI rfl (RS.asI rfl ?_);refine nl J1 (sq fun _ J2=>?_);refine RS.mvS rfl (RS.mvI rfl (RS.mvI rfl ?_));refine RS.bs2 V360 T28 (fun b3 w3 e3 s3 x3 B3=>?_);refine RS.nm ?_;replace K0:=K0.ext x3;replace R0:=R0.ext x3;refine RS.call E299 (hash (S1:=fun k=>k=b3) _ (by decide) _ _ _ _ _ 2 _ [r,y] _ _ K0 R0 hc (.of_blk B3 rfl rfl rfl (.cons (k:= .u32) (by simp only[lim];omega) (.cons (k:= .u32) (by simp only[lim];omega) (.nil _)))) (by decide)) rfl (fun v4 w4 x4 A4=>?_);subst A4;refine RS.nm ?_;refine RS.move (v:= .tuple _) rfl ?_;refine RS.exI ?_;refine RS.exI ?_;refine RS.asI rfl (RS.asI rfl (nl J2 (wx fun _ J5=>sq fun _ J6=>RS.mvI rfl ?_)));refine RS.on ?_;refine nl J6 ?_;replace hE:=Ext.tr (Ext.tr hE x3) x4;refine C.ifn rfl (fun c7=>?_) (fun c7=>?_)
 ·have he:=c7;refine sq fun _ J8=>RS.mvI rfl (RS.asI rfl (RS.asI rfl (nl J8 (wp_ret ?_))));refine retII ?_;refine⟨_,rfl,hE,?_⟩;rw[if_neg he]
 have he:=c7;have hm:¬9991<m.length:=by intro h;unfold S.hashE at he;rw[if_pos h]at he;omega
 rw[if_neg hm];have hb:=S.hash_bd 99 [r,y] m;refine wp_skip (J5 _ _ (sq fun _ J9=>RS.mvI rfl ?_));refine RS.o (D.rem rfl rfl (by omega) (by omega)) ?_;refine RS.o (D.conv rfl V29 V28 (by first|exact W.u32 (by omega)|exact W.u32m _)) ?_;refine RS.asI rfl (RS.asI rfl (nl J9 (wp_ret ?_)));refine retII ?_;refine⟨_,rfl,hE,?_⟩;rw[he,if_pos rfl,S.chal_eq]
theorem signW(x:Int)(hx:0≤x∧x<4294967296){S0:Nat→Prop}(a:Option Addr)(n c:Nat)(m:List Int)(TK:TypeId)(w:World)(K0:Kst w TK)(R0:IRow .u8 S0 w a n m)(hc:n≤c):
  Calls prog 187 #[.int .u32 x, .slice a n c] w (Ret w fun v _=>v= .tuple #[.agg ([.int .u32 (if S.nonceE x m=0 then S.sigE x m else 0), .int .u32 (if S.nonceE x m=0 then S.sigS x m else 0)]:List Value).toArray, .int .i64 (S.nonceE x m)]):=by
 replace R0:=R0.weaken (T:=fun k=>k<w.heap.size) (fun k hk _=>hk);have hKl:=K0.lt;have hml:=R0.len;refine eE 53 func187 rfl rfl fun hE=>?_
 refine sq fun _ J1=>?_
 refine RS.alloc T35 (fun b2 w2 e2 s2 x2 B2=>?_);refine RS.nm ?_;have zw2:=x2.size;refine RS.asI rfl ?_;refine nl J1 (sq fun _ J3=>?_);refine RS.mvI rfl (RS.mvS rfl ?_);replace K0:=K0.ext x2;replace R0:=R0.ext x2;refine RS.call E260 (nonce _ (by omega) _ _ _ _ _ _ K0 R0 hc) rfl (fun v4 w4 x4 A4=>?_);have zw4:=x4.size;subst A4;refine RS.nm ?_;refine RS.move (v:= .tuple _) rfl ?_;refine RS.exI ?_;refine RS.exI ?_;refine RS.asI rfl (RS.asI rfl (nl J3 (wx fun _ J5=>sq fun _ J6=>RS.mvI rfl ?_)));refine RS.on ?_;refine nl J6 ?_;replace hE:=Ext.tr (Ext.tr hE x2) x4;replace B2:=B2.ext x4;refine C.ifn rfl (fun c7=>?_) (fun c7=>?_)
 ·have hz:=c7;refine sq fun _ J8=>?_
  refine RS.o (D.buildS T35 F35 (ps:=[]) rfl rfl) ?_;refine RS.mvI rfl ?_;refine RS.sa C35 B2 (fun w9 y9 N9=>?_);have zw9:=y9.size;replace B2:=N9;refine RS.asI rfl (nl J8 (wp_ret ?_));refine retAI V35 C35 B2 2 ?_;replace hE:=hE.trans y9.belo;refine⟨_,rfl,hE,?_⟩;rw[if_neg hz,if_neg hz];first|done|rfl
 have hz:=c7;obtain⟨hsec,hh⟩:=S.nonceE_zero.1 hz;have hx2:=S.secE_zero.1 hsec;rw[show(if S.nonceE x m=0 then S.nonceS x m else 0)=S.nonceS x m from if_pos hz];have hb1:=S.nonce_bd x m;have hb2:=S.pub_bd x;have hb3:=S.pub_bd (S.nonceS x m);have hb4:=S.sig_bd x m;refine wp_skip (J5 _ _ (sq fun _ J10=>RS.mvI rfl ?_));refine RS.call E185 (publicW _ (by omega) _) rfl (fun v11 w11 x11 A11=>?_);have zw11:=x11.size;subst A11;rw[if_pos hsec];refine RS.nm ?_;refine RS.move (v:= .tuple _) rfl ?_;refine RS.exI ?_;refine RS.exI ?_;refine RS.asI rfl (RS.asI rfl ?_);refine nl J10 (sq fun _ J12=>?_);refine RS.mvI rfl ?_;refine RS.cw V28 V29 ?_;refine RS.call E256 (group_Base _ (by omega) _) rfl (fun v13 w13 x13 A13=>?_);have zw13:=x13.size;subst A13;rw[S.pub_eq];refine RS.nm ?_;refine RS.mvI rfl (RS.mvS rfl ?_);replace K0:=((K0.ext x4).ext x11).ext x13;replace R0:=((R0.ext x4).ext x11).ext x13;refine RS.call E261 (challenge _ (by omega) _ (by omega) _ _ _ _ _ _ K0 R0 hc) rfl (fun v14 w14 x14 A14=>?_);have zw14:=x14.size;subst A14;rw[if_pos hh,S.sigE_eq];refine RS.nm ?_;refine RS.move (v:= .tuple _) rfl ?_;refine RS.exI ?_;refine RS.exI ?_;refine RS.asI rfl (RS.asI rfl ?_);refine nl J12 (sq fun _ J15=>?_);refine RS.mvI rfl (RS.mvI rfl ?_);refine RS.call E262 (group_Times _ (by omega) _ (by omega) _) rfl (fun v16 w16 x16 A16=>?_);have zw16:=x16.size;subst A16;rw[if_pos (show max (S.sigE x m) x<500000003 by omega)];refine RS.nm ?_;refine RS.move (v:= .tuple _) rfl ?_;refine RS.exI ?_;refine RS.exI ?_;refine RS.asI rfl (RS.asI rfl ?_);refine nl J15 (sq fun _ J17=>?_);refine RS.mvI rfl (RS.mvI rfl ?_);refine RS.call E263 (group_Plus _ (by omega) _ (by omega) _) rfl (fun v18 w18 x18 A18=>?_);have zw18:=x18.size;subst A18;rw[if_pos (show max (S.nonceS x m) (S.sigE x m*x % 500000003)<500000003 by omega),S.sigS_eq];refine RS.nm ?_;refine RS.move (v:= .tuple _) rfl ?_;refine RS.exI ?_;refine RS.exI ?_
 refine RS.asI rfl (RS.asI rfl ?_);refine nl J17 (sq fun _ J19=>?_);refine RS.mvI rfl (RS.mvI rfl ?_);refine RS.o (D.buildS T35 F35 (ps:=[(0, .int _ _),(1, .int _ _)]) rfl rfl) ?_;replace B2:=((((B2.ext x11).ext x13).ext x14).ext x16).ext x18;refine RS.sa C35 B2 (fun w20 y20 N20=>?_);have zw20:=y20.size;replace B2:=N20;refine RS.asI rfl (nl J19 (wp_ret ?_));refine retAI V35 C35 B2 2 ?_;replace hE:=(Ext.tr (Ext.tr (Ext.tr (Ext.tr (Ext.tr hE x11) x13) x14) x16) x18).trans y20.belo;refine⟨_,rfl,hE,?_⟩;rw[hz,if_pos rfl,if_pos rfl];first|done|rfl
theorem verifyW(y:Int)(hy:0≤y∧y<4294967296)(e s:Int)(he:0≤e∧e<4294967296)(hs:0≤s∧s<4294967296){S0:Nat→Prop}(a:Option Addr)(n c:Nat)(m:List Int)(TK:TypeId)(w:World)(K0:Kst w TK)(R0:IRow .u8 S0 w a n m)(hc:n≤c):
  Calls prog 201 #[.int .u32 y, .slice a n c, .agg ([.int .u32 e, .int .u32 s]:List Value).toArray] w (Ret w fun v _=>v= .int .i64 (S.verS y m e s)):=by
 replace R0:=R0.weaken (T:=fun k=>k<w.heap.size) (fun k hk _=>hk);have hml:=R0.len;refine eE 55 func201 rfl rfl fun hE=>?_
 refine sq fun _ J1=>?_
 refine RS.box rfl rfl (fun b2 w2 e2 s2 x2 B2=>?_);refine RS.nm ?_;refine RS.asI rfl (nl J1 (wx fun _ J3=>sq fun _ J4=>RS.mvI rfl ?_));refine RS.call E265 (group_Is _ (by omega) _) rfl (fun v5 w5 x5 A5=>?_);subst A5;refine RS.nm ?_;refine RS.o (D.not rfl) ?_;refine nl J4 ?_;replace hE:=Ext.tr (Ext.tr hE x2) x5;refine C.ifnot rfl (fun c6=>?_) (fun c6=>?_)
 ·have hG:=c6;refine sAI rfl (wp_ret ?_);refine rI hE ?_;unfold S.verS;rw[if_pos (by simpa using hG)]
 have hG:S.isG y=true:=by simpa using c6
 refine wp_skip (J3 _ _ (wx fun _ J8=>sq fun _ J9=>RS.mvS rfl ?_));refine RS.ln V48 ?_;refine RS.og ?_;refine nl J9 (C.ifd rfl (fun c10=>?_) (fun c10=>?_))
 ·have hL:=c10;refine sAI rfl (wp_ret ?_);refine rI hE ?_;unfold S.verS;rw[if_neg (by simp[hG]),if_pos (by omega)]
 have hL:=c10;refine wp_skip (J8 _ _ (wx fun _ J12=>sq fun _ J13=>?_));refine RS.fl 0 V35 rfl C28 ?_;replace B2:=B2.ext x5;refine RS.ld V28 B2 ?_;refine RS.fl 1 V35 rfl C28 ?_;refine RS.ld V28 B2 ?_;refine RS.o (D.max2 rfl rfl) ?_;refine RS.oe ?_;refine nl J13 (C.ifd rfl (fun c14=>?_) (fun c14=>?_))
 ·have hQ:=c14;refine sAI rfl (wp_ret ?_);refine rI hE ?_;unfold S.verS;rw[if_neg (by simp[hG]),if_neg (by omega),if_pos (by split at hQ<;>omega)]
 have hQ:e<500000003∧s<500000003:=by have:=c14;split at this<;>omega
 refine wp_skip (J12 _ _ (sq fun _ J16=>RS.mvI rfl ?_));refine RS.fl 0 V35 rfl C28 ?_;refine RS.ld V28 B2 ?_;refine RS.cw V28 V29 ?_;refine RS.o (D.sub rfl rfl (W.u64 (by omega))) ?_;refine RS.call E275 (group_Pow _ (by omega) _ (by omega) _) rfl (fun v17 w17 x17 A17=>?_);subst A17;rw[if_pos hG];have hp1:=S.pw_nonneg y (500000003 - e) 1000000007 (by decide);have hp2:=S.pw_lt y (500000003 - e) 1000000007 (by decide);refine RS.nm ?_;refine RS.move (v:= .tuple _) rfl ?_;refine RS.exI ?_;refine RS.exI ?_;refine RS.asI rfl (RS.asI rfl ?_);refine nl J16 (sq fun _ J18=>?_);refine RS.fl 1 V35 rfl C28 ?_;replace B2:=B2.ext x17;refine RS.ld V28 B2 ?_;refine RS.cw V28 V29 ?_;refine RS.call E256 (group_Base _ (by omega) _) rfl (fun v19 w19 x19 A19=>?_);subst A19;rw[S.pub_eq];have hb1:=S.pub_bd s;refine RS.nm ?_;refine RS.mvI rfl ?_;have hmm:(S.isG (S.pubS s)&&S.isG (S.pw y (500000003 - e) 1000000007))=true:=by rw[S.isG_pub s (by omega),S.isG_back _ hG (by omega)];rfl
 refine RS.call E276 (group_Mul _ (by omega) _ (by omega) _) rfl (fun v20 w20 x20 A20=>?_);subst A20;rw[if_pos hmm];have hp3:=Int.emod_nonneg (S.pubS s*S.pw y (500000003 - e) 1000000007) (show(1000000007:Int)≠0 by decide);refine RS.nm ?_;refine RS.move (v:= .tuple _) rfl ?_;refine RS.exI ?_;refine RS.exI ?_;refine RS.asI rfl (RS.asI rfl (nl J18 (wx fun _ J21=>sq fun _ J22=>RS.mvI rfl (RS.mvI rfl (RS.mvS rfl ?_)))));have hh:S.hashE m=0:=by unfold S.hashE;rw[if_neg (by omega)]
 replace K0:=((((K0.ext x2).ext x5).ext x17).ext x19).ext x20;replace R0:=((((R0.ext x2).ext x5).ext x17).ext x19).ext x20;refine RS.call E261 (challenge _ (by omega) _ (by omega) _ _ _ _ _ _ K0 R0 hc) rfl (fun v23 w23 x23 A23=>?_);subst A23;rw[if_pos hh,hh];refine RS.nm ?_;refine RS.move (v:= .tuple _) rfl ?_;refine RS.exI ?_;refine RS.exI ?_;refine RS.asI rfl (RS.asI rfl ?_);refine nl J22 (sq fun _ J24=>?_);refine RS.mvI rfl ?_;refine RS.on ?_;refine RS.mvB rfl ?_;replace hE:=Ext.tr (Ext.tr (Ext.tr (Ext.tr hE x17) x19) x20) x23;refine RS.splitn 52 rfl rfl (fun c25=>?_) (fun c25=>?_)
 ·refine RS.nm ?_;refine RS.skT 52 ?_;refine RS.skT 52 ?_;refine RS.skT 52 ?_;refine RS.skT 52 ?_;refine RS.pkt ?_;refine nl J24 ?_;refine C.ift rfl ?_;refine sAI rfl (wp_ret ?_);refine rI hE ?_;unfold S.verS;rw[if_neg (by simp[hG]),if_neg (by omega),if_neg (by omega)];simp_all
 refine RS.nm ?_;refine RS.wt 52 ?_;refine RS.mvI rfl ?_;refine RS.wt 52 ?_;refine RS.fl 0 V35 rfl C28 ?_;refine RS.wt 52 ?_;replace B2:=((B2.ext x19).ext x20).ext x23;refine RS.ld V28 B2 ?_;refine RS.wt 52 ?_;refine RS.on ?_;refine RS.pk ?_;refine nl J24 (C.ifn rfl (fun c27=>?_) (fun c27=>?_))
 ·refine sAI rfl (wp_ret ?_);refine rI hE ?_;unfold S.verS;rw[if_neg (by simp[hG]),if_neg (by omega),if_neg (by omega)];simp_all
 refine wp_skip (J21 _ _ (sAI rfl (wp_ret ?_)));refine rI hE ?_;unfold S.verS;rw[if_neg (by simp[hG]),if_neg (by omega),if_neg (by omega)];simp_all
theorem F37:SI prog 37 [(0,1),(1,1),(2,1),(3,6),(9,2)]:=⟨_,V37,by kernel_rfl,by kernel_rfl⟩
theorem E187:Enters prog 187:= .mk func187 (by kernel_rfl) rfl
theorem E201:Enters prog 201:= .mk func201 (by kernel_rfl) rfl
theorem signO(x:Int)(hx:0≤x∧x<4294967296){S0:Nat→Prop}(o:S.OpV)(ho:o.ok)(pa:Option Addr)(pc:Nat)(TK:TypeId)(w:World)(K0:Kst w TK)(D0:WRow .u8 32 S0 w pa o.n o.ids)(hc:o.n≤pc):
  Calls prog 96 #[.int .u32 x, .agg ([.int .u32 o.au, .slice pa o.n pc, .int .u64 o.st, .int .u8 o.k, .string o.key, .int .u8 o.vk, .int .i64 o.num, .int .u64 o.bits, .string o.t, .int .u32 o.e, .int .u32 o.s]:List Value).toArray] w (Ret w fun v w'=>∃a' c',v= .tuple #[.agg ([.int .u32 (S.signS x o).au, .slice a' (S.signS x o).n c', .int .u64 (S.signS x o).st, .int .u8 (S.signS x o).k, .string (S.signS x o).key, .int .u8 (S.signS x o).vk, .int .i64 (S.signS x o).num, .int .u64 (S.signS x o).bits, .string (S.signS x o).t, .int .u32 (S.signS x o).e, .int .u32 (S.signS x o).s]:List Value).toArray, .int .i64 (S.signE x o)]∧(S.signS x o).n≤c'∧WRow .u8 32 (fun k=>w.heap.size≤k) w' a' (S.signS x o).n (S.signS x o).ids):=by
 replace D0:=D0.weaken (T:=fun k=>k<w.heap.size) (fun k hk _=>hk);have o1:=ho.au;have o2:=ho.st;have o3:=ho.k;have o4:=ho.vk;have o5:=ho.num;have o6:=ho.bits;have o7:=ho.e;have o8:=ho.s;have o9:=ho.n;have o10:=ho.key;have o11:=ho.t;have hKl:=K0.lt;have hb2:=S.pub_bd x;have e4:=D0.len;refine eE 39 func96 rfl rfl fun hE=>?_
 refine sq fun _ J1=>?_
 refine RS.box rfl rfl (fun b2 w2 e2 s2 x2 B2=>?_);refine RS.nm ?_;have zw2:=x2.size;refine RS.alloc T37 (fun b3 w3 e3 s3 x3 B3=>?_);refine RS.nm ?_;have zw3:=x3.size;refine RS.asI rfl ?_;refine nl J1 (sq fun _ J4=>?_);refine RS.mvI rfl ?_;refine RS.call E185 (publicW _ (by omega) _) rfl (fun v5 w5 x5 A5=>?_);have zw5:=x5.size;subst A5;refine RS.nm ?_;refine RS.move (v:= .tuple _) rfl ?_;refine RS.exI ?_;refine RS.exI ?_;refine RS.asI rfl (RS.asI rfl (nl J4 (wx fun _ J6=>sq fun _ J7=>RS.mvI rfl ?_)));refine RS.on ?_;refine nl J7 ?_;replace hE:=Ext.tr (Ext.tr (Ext.tr hE x2) x3) x5;replace B3:=B3.ext x5;refine C.ifn rfl (fun c8=>?_) (fun c8=>?_)
 ·have hz:=c8;refine sq fun _ J9=>?_
  refine RS.o (D.buildS T37 F37 (ps:=[]) rfl rfl) ?_;refine RS.mvI rfl ?_;refine RS.sa C37 B3 (fun w10 y10 N10=>?_);have zw10:=y10.size;replace B3:=N10;refine RS.asI rfl (nl J9 (wp_ret ?_));refine retAI V37 C37 B3 11 ?_;have e1:S.signE x o=S.secE x:=by unfold S.signE;rw[if_neg hz,S.secE_two hz]
  have e2:S.signS x o=S.OpV.zero:=by unfold S.signS;rw[if_neg (by rw[e1];exact hz)]
  rw[e1,e2];replace hE:=hE.trans y10.belo;exact⟨_,rfl,hE,_,_,rfl,Nat.le_refl _,WRow.nil⟩
 have hz:=c8;rw[if_pos hz];refine wp_skip (J6 _ _ (sq fun _ J11=>RS.mvI rfl ?_));refine RS.fl 1 V37 rfl C22 ?_;replace B2:=(B2.ext x3).ext x5;refine RS.ld V22 B2 ?_;replace D0:=((D0.ext x2).ext x3).ext x5;refine RS.call E85 (cloneID _ _ _ _ _ D0 hc (by omega)) rfl (fun v12 w12 x12 A12=>?_);have zw12:=x12.size;obtain⟨a12,_,c12,rfl,rfl,O1⟩:=A12;have hcc:=O1.own.pre;refine RS.nm ?_;refine RS.fl 0 V37 rfl C28 ?_;replace B2:=B2.ext x12;refine RS.store rfl (v:= .int _ _) rfl C28 rfl B2 rfl (fun w13 y13 N13=>?_);replace O1:=O1.stQ y13 (fun _ h=>(O1.own.lo _ h).1);have zw13:=y13.size;replace B2:=N13;refine RS.fl 1 V37 rfl C22 ?_;refine RS.store rfl rfl C22 rfl B2 rfl (fun w14 y14 N14=>?_);replace O1:=O1.stQ y14 (fun _ h=>(O1.own.lo _ h).1);have zw14:=y14.size;replace B2:=N14;refine nl J11 (sq fun _ J15=>?_);refine RS.la V37 C37 B2 11 ?_;refine RS.call E186 (messageO (o.wit x) (S.OpV.wit_ok x ho) _ _ _ O1.row hcc) rfl (fun v16 w16 x16 A16=>?_);have zw16:=x16.size;obtain⟨a16,n16,c16,xs,rfl,OM,hxs⟩:=A16;have hml:=OM.len;refine RS.nm ?_;refine RS.move (v:= .tuple _) rfl ?_;refine RS.exS ?_;refine RS.exI ?_;refine RS.asS rfl (RS.asI rfl (nl J15 (wx fun _ J17=>sq fun _ J18=>RS.mvI rfl ?_)));refine RS.on ?_;refine nl J18 ?_;replace hE:=Ext.tr (((Ext.tr hE x12).trans y13.belo).trans y14.belo) x16;replace B3:=(((B3.ext x12).sto y13).sto y14).ext x16;replace O1:=O1.ext x16;refine C.ifn rfl (fun c19=>?_) (fun c19=>?_)
 ·have hk:=c19;refine sq fun _ J20=>?_
  refine RS.o (D.buildS T37 F37 (ps:=[]) rfl rfl) ?_;refine RS.mvI rfl ?_;refine RS.sa C37 B3 (fun w21 y21 N21=>?_);replace O1:=O1.stQ y21 (fun _ h=>(O1.own.lo _ h).1);replace OM:=OM.stQ y21 (fun _ h=>(OM.own.lo _ h).1);have zw21:=y21.size;replace B3:=N21;refine RS.asI rfl (nl J20 (wp_ret ?_));refine retAI V37 C37 B3 11 ?_;have e1:S.signE x o=S.checkE (o.wit x).bare:=by unfold S.signE;rw[if_pos hz]
  have e2:S.signS x o=S.OpV.zero:=by unfold S.signS;rw[if_neg (by rw[e1];exact hk)]
  rw[e1,e2];replace hE:=hE.trans y21.belo;exact⟨_,rfl,hE,_,_,rfl,Nat.le_refl _,WRow.nil⟩
 have hk:=c19;rw[if_pos hk]at hxs;subst hxs;have hml2:=S.msg_len (o.wit x) (S.OpV.wit_ok x ho) (S.check_zero.1 hk).1 e4;have hn0:S.nonceE x (S.msgS (o.wit x))=0:=S.nonceE_zero.2 ⟨hz,by unfold S.hashE;rw[if_neg (by omega)]⟩;refine wp_skip (J17 _ _ (sq fun _ J22=>RS.mvI rfl (RS.mvS rfl ?_)));replace K0:=((((((K0.ext x2).ext x3).ext x5).ext x12).sto y13).sto y14).ext x16;refine RS.call E187 (signW _ (by omega) _ _ _ _ _ _ K0 OM.row OM.own.pre) rfl (fun v23 w23 x23 A23=>?_);have zw23:=x23.size;subst A23;rw[if_pos hn0,if_pos hn0];refine RS.nm ?_;refine RS.move (v:= .tuple _) rfl ?_;refine RS.exA ?_;refine RS.exI ?_;refine RS.fl 9 V37 rfl C35 ?_;replace B2:=(B2.ext x16).ext x23;refine RS.sa C35 B2 (fun w24 y24 N24=>?_);replace O1:=O1.ext x23;replace O1:=O1.stQ y24 (fun _ h=>(O1.own.lo _ h).1);replace OM:=OM.ext x23;replace OM:=OM.stQ y24 (fun _ h=>(OM.own.lo _ h).1);have zw24:=y24.size;replace B2:=N24;refine nl J22 (sq fun _ J25=>?_);refine RS.la V37 C37 B2 11 ?_;replace B3:=(B3.ext x23).sto y24;refine RS.sa C37 B3 (fun w26 y26 N26=>?_);replace O1:=O1.stQ y26 (fun _ h=>(O1.own.lo _ h).1);replace OM:=OM.stQ y26 (fun _ h=>(OM.own.lo _ h).1);have zw26:=y26.size;replace B3:=N26;refine RS.asI rfl (nl J25 (wp_ret ?_));refine retAI V37 C37 B3 11 ?_;have e1:S.signE x o=0:=by unfold S.signE;rw[if_pos hz];exact hk
 have e2:=S.signS_eq e1;rw[e1,e2];replace hE:=((Ext.tr hE x23).trans y24.belo).trans y26.belo;exact⟨_,rfl,hE,_,_,rfl,hcc,O1.row.weaken (fun k hk h=>by omega)⟩
theorem verifyO{S0:Nat→Prop}(o:S.OpV)(ho:o.ok)(pa:Option Addr)(pc:Nat)(TK:TypeId)(w:World)(K0:Kst w TK)(D0:WRow .u8 32 S0 w pa o.n o.ids)(hc:o.n≤pc):
  Calls prog 105 #[.agg ([.int .u32 o.au, .slice pa o.n pc, .int .u64 o.st, .int .u8 o.k, .string o.key, .int .u8 o.vk, .int .i64 o.num, .int .u64 o.bits, .string o.t, .int .u32 o.e, .int .u32 o.s]:List Value).toArray] w (Ret w fun v _=>v= .int .i64 (S.verE o)):=by
 replace D0:=D0.weaken (T:=fun k=>k<w.heap.size) (fun k hk _=>hk);have o1:=ho.au;have o7:=ho.e;have o8:=ho.s;refine eE 21 func105 rfl rfl fun hE=>?_
 refine sq fun _ J1=>?_
 refine RS.box rfl rfl (fun b2 w2 e2 s2 x2 B2=>?_);refine RS.nm ?_;refine RS.asI rfl (nl J1 (wx fun _ J3=>sq fun _ J4=>?_));refine RS.la V37 C37 B2 11 ?_;replace D0:=D0.ext x2;refine RS.call E188 (checkO o ho _ _ _ D0 hc) rfl (fun v5 w5 x5 A5=>?_);subst A5;refine RS.nm ?_;refine RS.asI rfl ?_;refine nl J4 (sq fun _ J6=>?_);refine RS.mvI rfl ?_;refine RS.on ?_;refine nl J6 ?_;replace hE:=Ext.tr (Ext.tr hE x2) x5;refine C.ifn rfl (fun c7=>?_) (fun c7=>?_)
 ·have hk:=c7;refine sq fun _ J8=>RS.mvI rfl (RS.asI rfl (nl J8 (wp_ret ?_)));refine retI rfl rfl ?_;refine⟨_,rfl,hE,?_⟩;unfold S.verE;rw[if_neg hk]
 have hk:=c7;refine wp_skip (J3 _ _ (sq fun _ J9=>?_));replace B2:=B2.ext x5;refine RS.la V37 C37 B2 11 ?_;replace D0:=D0.ext x5;refine RS.call E186 (messageO o ho _ _ _ D0 hc) rfl (fun v10 w10 x10 A10=>?_);obtain⟨a10,n10,c10,xs,rfl,OM,hxs⟩:=A10;rw[if_pos (S.check_bare hk)]at hxs;subst hxs;refine RS.nm ?_;refine RS.move (v:= .tuple _) rfl ?_;refine RS.exS ?_;refine RS.exI ?_;refine RS.asS rfl (RS.asI rfl ?_);refine nl J9 (sq fun _ J11=>?_);refine RS.fl 0 V37 rfl C28 ?_;replace B2:=B2.ext x10;refine RS.ld V28 B2 ?_;refine RS.mvS rfl ?_;refine RS.fl 9 V37 rfl C35 ?_;refine RS.la V35 C35 B2 2 ?_;replace K0:=((K0.ext x2).ext x5).ext x10;refine RS.call E201 (verifyW _ (by omega) _ _ (by omega) (by omega) _ _ _ _ _ _ K0 OM.row OM.own.pre) rfl (fun v12 w12 x12 A12=>?_);subst A12;refine RS.nm ?_;refine RS.asI rfl (nl J11 (wp_ret ?_));refine retI rfl rfl ?_;replace hE:=Ext.tr (Ext.tr hE x10) x12;refine⟨_,rfl,hE,?_⟩;unfold S.verE;rw[if_pos hk]
end W
namespace S
open G
theorem by4_ref(n:Int)(h:0≤n∧n<4294967296):[n / 16777216,n / 65536 % 256,n / 256 % 256,n % 256]=by4 n:=by
 have h1:(2:Int) ^ (24:Int).toNat=16777216:=by decide
 have h2:(2:Int) ^ (16:Int).toNat=65536:=by decide
 have h3:(2:Int) ^ (8:Int).toNat=256:=by decide
 unfold by4;rw[h1,h2,h3,Int.emod_eq_of_lt (a:=n / 16777216) (by omega) (by omega)]
theorem head_one(k x:Int):headS k [x]=[k]++by4 x:=by simp[headS]
theorem head_two(k x y:Int):headS k [x,y]=([k]++by4 x)++by4 y:=by simp[headS]
theorem be_grow(xs:List Int)(i:Nat)(hi:i<xs.length):256*be (xs.take i)+xs.getD i 0=be (xs.take (i+1)):=by
 rw[take_snoc xs i hi,be_snoc,Int.mul_comm]
theorem be7_lt(xs:List Int)(i:Nat)(hB:Bd .u8 xs)(hi:i≤7):be (xs.take i)<72057594037927936:=by
 have hb:=be_bd _ (hB.take i);have hp:(256:Int) ^ (xs.take i).length≤256 ^ 7:=pow256 (by simp;omega);have h256:(256:Int) ^ 7=72057594037927936:=by decide
 omega
theorem inv_ref{y e:Int}(hy:isG y=true)(he:0≤e∧e<500000003):pw (pw y e 1000000007) 500000002 1000000007=pw y (500000003 - e) 1000000007:=by
 have h1:=isG_one hy;rw[pw_pw y e 500000002 _ he.1 (by decide),pw_mod y 500000003 _ _ (by decide) (by decide) (by omega) h1,pw_mod y 500000003 (500000003 - e) _ (by decide) (by decide) (by omega) h1];congr 1;omega
theorem ver_good{y e s:Int}{m:List Int}(hy:isG y=true)(hm:m.length≤9991):verS y m e s=0↔(e<500000003∧s<500000003)∧chalS (pubS s*pw y (500000003 - e) 1000000007 % 1000000007) y m=e:=by
 unfold verS;rw[if_neg (by rw[hy];simp),if_neg (by omega)];by_cases h:e<500000003∧s<500000003
 ·rw[if_neg (fun hn=>hn h)];by_cases h2:chalS (pubS s*pw y (500000003 - e) 1000000007 % 1000000007) y m=e
  ·rw[if_pos h2];simp[h,h2]
  ·rw[if_neg h2];simp[h2]
 ·rw[if_pos h];simp[h]
theorem ver_val{y e s:Int}{m:List Int}(hy:isG y=true)(hm:m.length≤9991):verS y m e s=0∨verS y m e s=22:=by
 unfold verS;rw[if_neg (by rw[hy];simp),if_neg (by omega)]
 repeat' split
 all_goals simp
theorem fine4{k:Int}{key:ByteArray}{vk num bits:Int}{t:ByteArray}(h:FineAct k key vk num bits t)(h4:k=4):FineV vk num bits t:=by
 rcases h with⟨h1,_⟩|⟨h1,_⟩|⟨_,_,h1⟩
 ·omega
 ·omega
 ·exact h1
end S
end Go.Proofs.YtkibkhgcbepolaaGreatDoor
