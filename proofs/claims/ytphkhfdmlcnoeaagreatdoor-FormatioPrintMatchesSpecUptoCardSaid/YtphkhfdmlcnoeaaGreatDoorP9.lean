import Derived.Test.YtphkhfdmlcnoeaaGreatDoorP8
import Derived.WalkSpells
namespace Go.Proofs.YtphkhfdmlcnoeaaGreatDoor
set_option linter.unusedVariables false
set_option linter.unusedSimpArgs false
set_option maxRecDepth 1000000
set_option maxHeartbeats 32000000
open Go.RowKit
section
variable {A Ap:Option Addr}{b bytes c c2 cp m n np q:Nat}{big:Bool}{count elem mn mx size stop:Int}{cur news xs:List Value}{e t:TypeId}{l parts:List Int}{nm:ByteArray}{sb sn:Value}{w:World}{x:Operand}
theorem Q7W{P:Program}{ty:TypeId}(hT:SlT P t e 1 bytes)(w:World){g:Nat}(hg:w.heap[g]? =some (.cells cur.toArray e (0,0)))(a:Addr)(hl:news.length=m)(hnews:∀j u,news[j]? =some u->w.cell? (a.add j)=some u)(h1:∀u∈news,u.oneCell'=true)(hroom:n+m<=c)(hfit:q+c<=cur.length):
  (Builtin.append_ #[t,t] ty #[.slice (some ⟨g,q,none⟩) n c,.slice (some a) m c2]).run P w=.ok (.slice (some ⟨g,q,none⟩) (n+m) c) (w.setCells g (q+n) news):=by
 obtain⟨i,z,hi,hz,hs,hby,hzs⟩:=hT.info;have hf:=run_firstCells_some (P:=P) w i.size m a m c2 news (by rw[hs,hl,Nat.mul_one]) hnews
 have hst:=run_storeCells_cells (P:=P) g (q+n) news 0 w (fun j hj=>by
   rw[cell_of_row w g (q+n+0+j) cur.toArray e (0,0) hg]
   simp
   omega) (fun j hj=>by simp [World.frozen?,hg]) h1
 simp only[Nat.add_zero] at hst;rw[hs] at hf;simp [Builtin.append_,run_underlying hT.und,sizeOf,typeInfo,hi,hs,Builtin.lenOf,hroom,hf,Addr.add_mid,hst]
section
variable {P:Program}{ops:Array Oper}{N:Nat}{E:Env}{o:Oper}{M:List Nat}{W:World}{O:List Qf}
def Q5L(q n c:Nat)(cur xs:List Value):Prop:=n<=c/\c<=maxLen/\q+c<=cur.length/\xs.length=n/\∀j u,xs[j]? =some u->cur[q+j]? =some u
theorem Q3E(i:Nat){s:Operand}{A2:Option Addr}[hT:Sl P t e 1 bytes](ho:o.op=.call { callee:=.builtin .append,args:=#[s,x],argTypes:=#[t,t] })(hw:Qo ops E o=some true)(hs:ev E s=some (.slice (some ⟨b,q,none⟩) n c))(hx:ev E x=some (.slice A2 m c2))
  (hO:O[i]? =some (.blk b (.cells cur.toArray e (0,0)))) (hwin:Q5L q n c cur xs) (hr:∀w,Wd M W O w->Rd w w.heap.size 1 A2 m news) (h1:∀u∈news,u.oneCell'=true) (hbytes:(n+m)*bytes<=140737488355328):
  uE P ops N M W E O o (Nat×Nat×Nat×List Value) (fun y=>.slice (some ⟨y.1,y.2.1,none⟩) (n+m) y.2.2.1) (fun y=>O.set i (.blk y.1 (.cells y.2.2.2.toArray e (0,0)))) (fun y=>Q5L y.2.1 (n+m) y.2.2.1 y.2.2.2 (xs++news)):=
 Q00 hw fun ρ w ha hW=>by
  obtain⟨w1,w2,w3,w4,w5⟩:=hwin;have hb:w.heap[b]? =some (.cells cur.toArray e (0,0)):=hW.own i _ hO;have hrr:=hr w hW;have hlen:=hrr.len;obtain⟨ti,z,hi,hz,hss,hby,hzs⟩:=hT.h.info;have hex:∀v w',(Builtin.append_ #[t,t] o.type #[.slice (some ⟨b,q,none⟩) n c,.slice A2 m c2]).run P w=.ok v w'->(execOp ρ o).run P w=.ok (.value v) w':=fun v w' hrun=>by
   unfold execOp;simp only[ho,resolve,invoke,builtin,Sem.run_bind,Sem.run_pure,Result.andThen_ok,List.map_toArray,List.map_cons,List.map_nil,ha.eval hs,ha.eval hx,hrun]
  rcases A2 with _|ad
  ·have hm:m=0:=by
    rcases Nat.eq_zero_or_pos m with h0|h0
    ·exact h0
    ·obtain⟨b',o',h,_⟩:=hrr.2 h0
     cases h
   subst hm;have hn:=hrr.empty;subst hn;refine⟨(b,q,c,cur),w,hex _ _ (by simp [Builtin.append_,run_underlying hT.h.und,sizeOf,typeInfo,hi,Builtin.lenOf,Builtin.firstCells,w1,storeCells]),⟨w1,w2,w3,by rw[List.append_nil];exact w4,by rw[List.append_nil];exact w5⟩,?_⟩;exact hW.upd hO rfl rfl Qgt hb Q56
  ·have hcells:∀j u,news[j]? =some u->w.cell? (ad.add j)=some u:=by
    intro j u hu;rcases Nat.eq_zero_or_pos m with h0|h0
    ·subst h0;rw[hrr.empty] at hu
     cases hu
    ·obtain⟨b',o',h,_,hc⟩:=hrr.2 h0
     exact Qh7
   by_cases hroom:n+m<=c
   ·refine⟨(b,q,c,ZL cur (q+n) news),_,hex _ _ (Q7W hT.h w hb ad hlen hcells h1 hroom w3),⟨hroom,w2,by rw[VV];exact w3,by rw[List.length_append,w4,hlen],?_⟩,hW.upd hO rfl rfl (Yn b news w (q+n)) (Ja news w (q+n) cur hb) Q56⟩;intro j u hu
    show (ZL cur (q+n) news)[q+j]? =some u;rw[Q0M];rw[List.getElem?_append] at hu;split at hu
    ·next hj=>rw[if_neg Q3];exact w5 j u hu
    ·next hj=>
     have hj2:j - xs.length<news.length:=by
      rcases Nat.lt_or_ge (j - xs.length) news.length with h|h
      ·exact h
      ·rw[List.getElem?_eq_none h] at hu;cases hu
     rw[if_pos Q3];rw[show q+j - (q+n)=j - xs.length by omega];exact hu
   ·have h63:n+m<=maxLen:=by
     have h:=Nat.le_trans (Nat.le_mul_of_pos_right (n+m) hT.h.bpos) hbytes;simp only[maxLen];omega
    have hsmall:n+m<=9223372036854775807:=by simp only[maxLen] at h63;omega
    have hre:=run_append_grow (P:=P) w t o.type e ti z hT.h.und hi hz ⟨b,q,none⟩ n c xs (by rw[hss,w4,Nat.mul_one]) (fun j v hv=>by
     rw[Addr.add_mid,cell_of_row w b (q+j) cur.toArray e (0,0) hb]
     simpa using w5 j v hv) ad m c2 news (by rw[hss,hlen,Nat.mul_one]) hcells Q3 Q3 (growslice_fits Q3 (by rw[hby];exact hbytes))
    have hge:=grownCap_ge w (n+m) c e;have hcm:grownCap w (n+m) c e<=maxLen:=grownCap_le_maxLen w (n+m) c e h63;refine⟨(w.heap.size,0,grownCap w (n+m) c e,(xs.toArray++news.toArray++Builtin.zeroCells z.cells (grownCap w (n+m) c e - (n+m))).toList),_,hex _ _ hre,⟨hge,hcm,?_,by rw[List.length_append,w4,hlen],?_⟩,?_⟩
    ·simp only[Array.length_toList,Array.size_append,List.size_toArray,size_zeroCells,hzs,w4,hlen]
     omega
    ·intro j u hu
     simp only[Nat.zero_add,Array.toList_append,List.append_assoc];rw[<- List.append_assoc];have hj:j<(xs++news).length:=by
      rcases Nat.lt_or_ge j (xs++news).length with h|h
      ·exact h
      ·rw[List.getElem?_eq_none h] at hu;cases hu
     rw[List.getElem?_append_left hj];exact hu
    ·refine hW.upd hO rfl rfl ⟨rfl,rfl,rfl,by simp,fun k hk _=>heap_alloc_old w.drew _ hk⟩ ?_ (fun b' hb'=>by cases hb';exact .inr Xr)
     show (w.drew.alloc _).heap[w.heap.size]? =_;rw[Array.toArray_toList];exact heap_alloc_new w.drew _
end
theorem Wd.rd_far{W:World}{O:List Qf}{s:Nat}(hW:Wd [] W O w){w0:World}(hw0:Wd [] W O w0)(hr:Rd w w.heap.size s A n xs)(hf:∀b o,A=some ⟨b,o,none⟩->0<n->w0.heap.size<=b\/b<W.heap.size):Wd [] W (.rd A n s xs::O) w:=by
 have hfoot:∀b,(Qf.rd A n s xs).foot=some b->w0.heap.size<=b\/b<W.heap.size:=by
  intro b hb;simp only[Qf.foot] at hb;split at hb
  ·cases hb
  ·next hn=>
   obtain⟨b',o,rfl,_,_⟩:=hr.2 Q3;cases hb;exact hf b' o rfl Q3
 refine hW.add hr (fun b hb hlt=>by simp [Qf.w]) (fun i x b hx hfx hfy=>?_);cases hxw:x.w with
 |false=>rfl
 |true=>
  exfalso;rcases hfoot b hfy with h|h
  ·have:=(hw0.own i x hx).lt hfx
   omega
  ·have:=hW.new i x b hx hfx h;rw[hxw] at this
   simp at this
theorem QbS(w:World)(a:Option Addr)(n c:Nat):(binOp .eql 48 (.slice a n c) (.slice none 0 0)).run Tryz.prog w=.ok (.bool a.isNone) w:=by
 simp only[binOp];simp [Op.equal,Op.maxDepth,Lib.run_equalIn_slice_nil w 9999 48 3 a n c 0 0 Tryz.underlying48]
theorem Qkc{P:Program}{ops:Array Oper}{C:World->Prop}{N:Nat}{E:Env}{o:Oper}{d:Nat}{y:Operand}{t':TypeId}{v:Value}(ho:o.op=.binOp .eql t x y t')(hd:o.dst=some d)(hN:d<N)(hw:Qo ops E o=some true)(hx:ev E x=some (.slice A n c))(hy:ev E y=some (.slice none 0 0))(hb:∀w,(binOp .eql t (.slice A n c) (.slice none 0 0)).run P w=.ok v w):oE P ops C N E ((d,v)::E) o:=
 Xi hd hN hw fun ρ w ha _=>by
  simp only[execOp,ho,ha.eval hx,ha.eval hy,eqGuard_at_slice,Sem.run_bind,Sem.run_pure,Result.andThen_ok,hb w]
def Quw(W:World)(n:Nat)(xs:List Int)(e:Ending)(w':World):Prop:=∃b q c cur,e=.returned (.slice (some ⟨b,q,none⟩) n c)/\W.heap.size<=b/\w'.heap[b]? =some (.cells (List.toArray cur) 3 (0,0))/\Q5L q n c cur (iv xs)/\Below W.heap.size W w'
theorem Qaq{W:World}{xs:List Int}(h:Rd W W.heap.size 1 A n (iv xs))(hn:0<n)(hn':n<=1048576):Calls Tryz.prog 151 #[.slice A n c] W (Quw W n xs):=by
 obtain⟨b0,o0,hA,_⟩:=h.2 hn;subst hA;have HR:=Q2 h;clear h;go_enter Tryz.func151,Tryz.ntmps151;refine Qz (M:=[]) (W:=W) (N:=8) (E:=[(0,.slice (some ⟨b0,o0,none⟩) n c)]) (O:=[]) ?_ Zl QR;repeat(first|refine Q4 zM ?_|refine Q4 zA ?_|refine Q4 (Qkc (v:=.bool false) rfl rfl Q1 rfl rfl rfl (fun w=>QbS w _ _ _)) ?_|refine Qd (VJ (cells:=[]) (vs:=[]) rfl rfl rfl (fun w=>by simp [Instr.buildSlice,go_sem])) rfl Q1 (fun bn _=>?_)|refine Qg ?_|refine Qa ?_|refine Q6 ?_|refine Qp ?_|refine Q8 rfl ?_)
 refine Qd (Q3E (xs:=[]) 0 rfl rfl rfl rfl rfl ⟨Nat.le_refl _,Nat.zero_le _,Nat.le_refl _,rfl,fun j u hu=>by cases hu⟩ (fun w hw=>(HR.out.below hw.k.below).more hw.k.size) (QdQ xs) Q3) rfl Q1 (fun y hy=>?_);repeat(first|refine Q4 zA ?_|refine Qg ?_|refine QC ?_)
 refine Q7 mc4 rfl (.tmp rfl) (fun w hw=>?_);obtain⟨b',q,c',cur⟩:=y;rw[Nat.zero_add] at hy ⊢;refine⟨b',q,c',cur,rfl,?_,hw.own 0 _ rfl,hy,hw.k.below⟩;rcases Nat.lt_or_ge b' W.heap.size with h|h
 ·have:=hw.new 0 _ b' rfl rfl h
  exact Q2D
 ·exact h
theorem Qe3(W:World):Calls Tryz.prog 151 #[.slice none 0 0] W fun e w'=>e=.returned (.slice none 0 0)/\Below W.heap.size W w':=by
 go_enter Tryz.func151,Tryz.ntmps151;refine Qz (M:=[]) (W:=W) (N:=8) (E:=[(0,.slice none 0 0)]) (O:=[]) ?_ Zl QR;repeat(first|refine Q4 zM ?_|refine Q4 zA ?_|refine Q4 (Qkc (v:=.bool true) rfl rfl Q1 rfl rfl rfl (fun w=>QbS w _ _ _)) ?_|refine Qg ?_|refine Qa ?_|refine Q6 ?_|refine Q9 rfl ?_|refine QC ?_|refine Qk ?_)
 exact Q5g
def BgX(W:World)(Ap:Option Addr)(np:Nat)(l:List Int)(e:Ending)(w':World):Prop:=∃A n c,e=.returned (.slice A n c)/\Rd w' w'.heap.size 1 A n (iv l)/\n<=c/\Below W.heap.size W w'/\(∀b o,A=some ⟨b,o,none⟩->0<n->W.heap.size<=b\/((∃o',Ap=some ⟨b,o',none⟩)/\0<np))/\(n=0->A=none/\c=0)
theorem Q2Z{W:World}{x:Int}{O:List Qf}(hw:Wd [] W (.blk b (.cells [.int .i64 x].toArray 3 (0,0))::O) w):BgX W Ap np [x] (.returned (.slice (some ⟨b,0,none⟩) 1 1)) w:=by
 refine⟨_,1,1,rfl,⟨rfl,fun _=>⟨b,0,rfl,?_,fun j u hu=>hw.cell_blkL 0 rfl (by rw[Nat.zero_add];exact hu)⟩⟩,Nat.le_refl _,hw.k.below,fun b' o' e _=>?_,fun h=>absurd h Q1⟩
 ·exact(hw.own 0 _ rfl).lt rfl
 ·cases e
  rcases Nat.lt_or_ge b W.heap.size with h|h
  ·have:=hw.new 0 _ b rfl rfl h
   exact Q2D
  ·exact .inl h
theorem Q1a{W:World}{O:List Qf}(hw:Wd [] W O w):BgX W Ap np [] (.returned (.slice none 0 0)) w:=
 ⟨_,0,0,rfl,Qt3 _ _,Nat.le_refl _,hw.k.below,fun b o e h=>absurd h Q3,fun _=>⟨rfl,rfl⟩⟩
theorem QhI{W:World}{O:List Qf}(hr:Rd W W.heap.size 1 Ap n (iv l))(h1:1<=n)(hc:n<=c)(hw:Wd [] W O w):BgX W Ap n l (.returned (.slice Ap n c)) w:=
 ⟨_,n,c,rfl,(hr.below hw.k.below).more hw.k.size,hc,hw.k.below,fun b o e _=>.inr ⟨⟨o,e⟩,h1⟩,fun h=>by omega⟩
theorem Qod(h:∀a,A=some a->a.spot=none):ZY A c 0 1=A:=by
 unfold ZY;split
 ·rfl
 ·cases A with
  |none=>rfl
  |some a=>
   have:=h a rfl;obtain⟨b,o,s⟩:=a;simp at this;subst this;simp [Addr.add_mid]
theorem QpY{W:World}{O:List Qf}(hr:Rd W W.heap.size 1 Ap n (iv l))(h1:1<=n)(hc:n<=c)(hw:Wd [] W O w):BgX W Ap n (l.take 1) (.returned (.slice (ZY Ap c 0 1) 1 c)) w:=by
 have hz:ZY Ap c 0 1=Ap:=Qod fun a ha=>by
  obtain⟨b,o,e,_⟩:=hr.2 Q3;rw[e] at ha;cases ha;rfl
 rw[hz];have ht:=hr.take (m:=1) h1;have e:(iv l).take (1*1)=iv (l.take 1):=by unfold iv;rw[List.map_take]
 rw[e] at ht;exact⟨_,1,c,rfl,(ht.below hw.k.below).more hw.k.size,by omega,hw.k.below,fun b o e _=>.inr ⟨⟨o,e⟩,h1⟩,fun h=>absurd h Q1⟩
theorem Qvn{W:World}(hp:Rd W W.heap.size 1 Ap np (iv parts))(hc:np<=cp):
  Calls Tryz.prog 97 #[.agg #[.string nm,.int .i64 1,sb,.int .i64 size,.bool big,.int .i64 mn,.int .i64 mx,.int .i64 stop,.int .i64 count,.int .i64 elem,sn,.slice Ap np cp]] W (BgX W Ap np (XO 1 count elem parts)):=by
 have HP:=Q2 hp;clear hp;go_enter Tryz.func97,Tryz.ntmps97;refine Qz (M:=[]) (W:=W) (N:=29) (E:=[(0,.agg #[.string nm,.int .i64 1,sb,.int .i64 size,.bool big,.int .i64 mn,.int .i64 mx,.int .i64 stop,.int .i64 count,.int .i64 elem,sn,.slice Ap np cp])]) (O:=[]) ?_ Zl QR;repeat(first|refine Q4 zA ?_|refine Q4 zF ?_|refine Q4 (zB 0) ?_|refine Q4 (zD 0) ?_|refine yB fun br=>?_|(refine Q4 Q3g ?_;rw[(by decide:QE 1=false)])|refine Qg ?_|refine Qa ?_|refine Q6 ?_|refine Qp ?_|refine Q8 rfl ?_|refine QC ?_|refine Qi ?_|refine Q4 zef ?_)
 refine Q7 mc4 rfl (.tmp rfl) (fun w hw=>?_);exact Q1a hw
theorem Qut{W:World}(hp:Rd W W.heap.size 1 Ap np (iv parts))(hc:np<=cp):
  Calls Tryz.prog 97 #[.agg #[.string nm,.int .i64 2,sb,.int .i64 size,.bool big,.int .i64 mn,.int .i64 mx,.int .i64 stop,.int .i64 count,.int .i64 elem,sn,.slice Ap np cp]] W (BgX W Ap np (XO 2 count elem parts)):=by
 have HP:=Q2 hp;clear hp;go_enter Tryz.func97,Tryz.ntmps97;refine Qz (M:=[]) (W:=W) (N:=29) (E:=[(0,.agg #[.string nm,.int .i64 2,sb,.int .i64 size,.bool big,.int .i64 mn,.int .i64 mx,.int .i64 stop,.int .i64 count,.int .i64 elem,sn,.slice Ap np cp])]) (O:=[]) ?_ Zl QR;repeat(first|refine Q4 zA ?_|refine Q4 zF ?_|refine Q4 (zB 0) ?_|refine Q4 (zD 0) ?_|refine yB fun br=>?_|(refine Q4 Q3g ?_;rw[(by decide:QE 2=false)])|refine Qg ?_|refine Qa ?_|refine Q6 ?_|refine Qp ?_|refine Q8 rfl ?_|refine QC ?_|refine Qi ?_|refine Q4 zef ?_)
 refine Q7 mc4 rfl (.tmp rfl) (fun w hw=>?_);exact Q1a hw
theorem Qvg{W:World}(hp:Rd W W.heap.size 1 Ap np (iv parts))(hc:np<=cp):
  Calls Tryz.prog 97 #[.agg #[.string nm,.int .i64 3,sb,.int .i64 size,.bool big,.int .i64 mn,.int .i64 mx,.int .i64 stop,.int .i64 count,.int .i64 elem,sn,.slice Ap np cp]] W (BgX W Ap np (XO 3 count elem parts)):=by
 have HP:=Q2 hp;clear hp;go_enter Tryz.func97,Tryz.ntmps97;refine Qz (M:=[]) (W:=W) (N:=29) (E:=[(0,.agg #[.string nm,.int .i64 3,sb,.int .i64 size,.bool big,.int .i64 mn,.int .i64 mx,.int .i64 stop,.int .i64 count,.int .i64 elem,sn,.slice Ap np cp])]) (O:=[]) ?_ Zl QR;repeat(first|refine Q4 zA ?_|refine Q4 zF ?_|refine Q4 (zB 0) ?_|refine Q4 (zD 0) ?_|refine yB fun br=>?_|(refine Q4 Q3g ?_;rw[(by decide:QE 3=false)])|refine Qg ?_|refine Qa ?_|refine Q6 ?_|refine Qp ?_|refine Q8 rfl ?_|refine QC ?_|refine Qi ?_|refine Q4 zef ?_)
 refine Q7 mc4 rfl (.tmp rfl) (fun w hw=>?_);exact Q1a hw
theorem Quv{W:World}(hp:Rd W W.heap.size 1 Ap np (iv parts))(hc:np<=cp):
  Calls Tryz.prog 97 #[.agg #[.string nm,.int .i64 4,sb,.int .i64 size,.bool big,.int .i64 mn,.int .i64 mx,.int .i64 stop,.int .i64 count,.int .i64 elem,sn,.slice Ap np cp]] W (BgX W Ap np (XO 4 count elem parts)):=by
 have HP:=Q2 hp;clear hp;go_enter Tryz.func97,Tryz.ntmps97;refine Qz (M:=[]) (W:=W) (N:=29) (E:=[(0,.agg #[.string nm,.int .i64 4,sb,.int .i64 size,.bool big,.int .i64 mn,.int .i64 mx,.int .i64 stop,.int .i64 count,.int .i64 elem,sn,.slice Ap np cp])]) (O:=[]) ?_ Zl QR;repeat(first|refine Q4 zA ?_|refine Q4 zF ?_|refine Q4 (zB 0) ?_|refine Q4 (zD 0) ?_|refine yB fun br=>?_|(refine Q4 Q3g ?_;rw[(by decide:QE 4=false)])|refine Qg ?_|refine Qa ?_|refine Q6 ?_|refine Qp ?_|refine Q8 rfl ?_|refine QC ?_|refine Qi ?_|refine Q4 zef ?_)
 refine Q7 mc4 rfl (.tmp rfl) (fun w hw=>?_);exact Q1a hw
theorem Qv5{W:World}(hp:Rd W W.heap.size 1 Ap np (iv parts))(hc:np<=cp):
  Calls Tryz.prog 97 #[.agg #[.string nm,.int .i64 5,sb,.int .i64 size,.bool big,.int .i64 mn,.int .i64 mx,.int .i64 stop,.int .i64 count,.int .i64 elem,sn,.slice Ap np cp]] W (BgX W Ap np (XO 5 count elem parts)):=by
 have HP:=Q2 hp;clear hp;go_enter Tryz.func97,Tryz.ntmps97;refine Qz (M:=[]) (W:=W) (N:=29) (E:=[(0,.agg #[.string nm,.int .i64 5,sb,.int .i64 size,.bool big,.int .i64 mn,.int .i64 mx,.int .i64 stop,.int .i64 count,.int .i64 elem,sn,.slice Ap np cp])]) (O:=[]) ?_ Zl QR;repeat(first|refine Q4 zA ?_|refine Q4 zF ?_|refine Q4 (zB 0) ?_|refine Q4 (zD 0) ?_|refine yB fun br=>?_|(refine Q4 Q3g ?_;rw[(by decide:QE 5=false)])|refine Qg ?_|refine Qa ?_|refine Q6 ?_|refine Qp ?_|refine Q8 rfl ?_|refine QC ?_|refine Qi ?_|refine Q4 zef ?_)
 refine Q7 mc4 rfl (.tmp rfl) (fun w hw=>?_);exact Q1a hw
theorem Qvo{W:World}(hp:Rd W W.heap.size 1 Ap np (iv parts))(hc:np<=cp):
  Calls Tryz.prog 97 #[.agg #[.string nm,.int .i64 6,sb,.int .i64 size,.bool big,.int .i64 mn,.int .i64 mx,.int .i64 stop,.int .i64 count,.int .i64 elem,sn,.slice Ap np cp]] W (BgX W Ap np (XO 6 count elem parts)):=by
 have HP:=Q2 hp;clear hp;go_enter Tryz.func97,Tryz.ntmps97;refine Qz (M:=[]) (W:=W) (N:=29) (E:=[(0,.agg #[.string nm,.int .i64 6,sb,.int .i64 size,.bool big,.int .i64 mn,.int .i64 mx,.int .i64 stop,.int .i64 count,.int .i64 elem,sn,.slice Ap np cp])]) (O:=[]) ?_ Zl QR;repeat(first|refine Q4 zA ?_|refine Q4 zF ?_|refine Q4 (zB 0) ?_|refine Q4 (zD 0) ?_|refine yB fun br=>?_|(refine Q4 Q3g ?_;rw[(by decide:QE 6=true)])|refine Qd VE rfl Q1 (fun bn _=>?_)|refine Qg ?_|refine Qa ?_|refine Q6 ?_|refine Q9 rfl ?_|refine QC ?_|refine Qi ?_|refine Qk ?_|refine Qu ?_)
 refine Q7 mc4 rfl (.tmp rfl) (fun w hw=>?_);exact Q2Z hw
theorem Quh{W:World}(hp:Rd W W.heap.size 1 Ap np (iv parts))(hc:np<=cp):
  Calls Tryz.prog 97 #[.agg #[.string nm,.int .i64 10,sb,.int .i64 size,.bool big,.int .i64 mn,.int .i64 mx,.int .i64 stop,.int .i64 count,.int .i64 elem,sn,.slice Ap np cp]] W (BgX W Ap np (XO 10 count elem parts)):=by
 have HP:=Q2 hp;clear hp;go_enter Tryz.func97,Tryz.ntmps97;refine Qz (M:=[]) (W:=W) (N:=29) (E:=[(0,.agg #[.string nm,.int .i64 10,sb,.int .i64 size,.bool big,.int .i64 mn,.int .i64 mx,.int .i64 stop,.int .i64 count,.int .i64 elem,sn,.slice Ap np cp])]) (O:=[]) ?_ Zl QR;repeat(first|refine Q4 zA ?_|refine Q4 zF ?_|refine Q4 (zB 0) ?_|refine Q4 (zD 0) ?_|refine yB fun br=>?_|(refine Q4 Q3g ?_;rw[(by decide:QE 10=true)])|refine Qd VE rfl Q1 (fun bn _=>?_)|refine Qg ?_|refine Qa ?_|refine Q6 ?_|refine Q9 rfl ?_|refine QC ?_|refine Qi ?_|refine Qk ?_|refine Qu ?_)
 refine Q7 mc4 rfl (.tmp rfl) (fun w hw=>?_);exact Q2Z hw
theorem Qvx{W:World}(hp:Rd W W.heap.size 1 Ap np (iv parts))(hc:np<=cp)(h7:1<=np):
  Calls Tryz.prog 97 #[.agg #[.string nm,.int .i64 7,sb,.int .i64 size,.bool big,.int .i64 mn,.int .i64 mx,.int .i64 stop,.int .i64 count,.int .i64 elem,sn,.slice Ap np cp]] W (BgX W Ap np (XO 7 count elem parts)):=by
 have HP:=Q2 hp;clear hp;go_enter Tryz.func97,Tryz.ntmps97;refine Qz (M:=[]) (W:=W) (N:=29) (E:=[(0,.agg #[.string nm,.int .i64 7,sb,.int .i64 size,.bool big,.int .i64 mn,.int .i64 mx,.int .i64 stop,.int .i64 count,.int .i64 elem,sn,.slice Ap np cp])]) (O:=[]) ?_ Zl QR;repeat(first|refine Q4 zA ?_|refine Q4 zF ?_|refine Q4 (zB 0) ?_|refine Q4 (zD 0) ?_|refine yB fun br=>?_|(refine Q4 Q3g ?_;rw[(by decide:QE 7=false)])|refine Q4 (Q1g (h:=1) rfl rfl Q1 rfl rfl rfl Q3) ?_|refine Qg ?_|refine Qa ?_|refine Q6 ?_|refine Q9 rfl ?_|refine Q8 rfl ?_|refine QC ?_|refine Qi ?_|refine Qk ?_|refine Qu ?_|refine Q4 zet ?_)
 refine Q7 mc4 rfl (.tmp rfl) (fun w hw=>?_);exact QpY HP.out h7 hc hw
theorem Qvu{W:World}(hp:Rd W W.heap.size 1 Ap np (iv parts))(hc:np<=cp)(h8:1<=np):
  Calls Tryz.prog 97 #[.agg #[.string nm,.int .i64 8,sb,.int .i64 size,.bool big,.int .i64 mn,.int .i64 mx,.int .i64 stop,.int .i64 count,.int .i64 elem,sn,.slice Ap np cp]] W (BgX W Ap np (XO 8 count elem parts)):=by
 have HP:=Q2 hp;clear hp;go_enter Tryz.func97,Tryz.ntmps97;refine Qz (M:=[]) (W:=W) (N:=29) (E:=[(0,.agg #[.string nm,.int .i64 8,sb,.int .i64 size,.bool big,.int .i64 mn,.int .i64 mx,.int .i64 stop,.int .i64 count,.int .i64 elem,sn,.slice Ap np cp])]) (O:=[]) ?_ Zl QR;repeat(first|refine Q4 zA ?_|refine Q4 zF ?_|refine Q4 (zB 0) ?_|refine Q4 (zD 0) ?_|refine yB fun br=>?_|(refine Q4 Q3g ?_;rw[(by decide:QE 8=false)])|refine Qg ?_|refine Qa ?_|refine Q6 ?_|refine Q9 rfl ?_|refine Q8 rfl ?_|refine QC ?_|refine Qi ?_|refine Qk ?_|refine Qu ?_|refine Q4 zet ?_|refine Q4 zef ?_)
 refine Q7 mc4 rfl (.tmp rfl) (fun w hw=>?_);exact QhI HP.out h8 hc hw
theorem Qvi{W:World}(hp:Rd W W.heap.size 1 Ap np (iv parts))(hc:np<=cp):
  Calls Tryz.prog 97 #[.agg #[.string nm,.int .i64 9,sb,.int .i64 size,.bool big,.int .i64 mn,.int .i64 mx,.int .i64 stop,.int .i64 count,.int .i64 elem,sn,.slice Ap np cp]] W (BgX W Ap np (XO 9 count elem parts)):=by
 have HP:=Q2 hp;clear hp;go_enter Tryz.func97,Tryz.ntmps97;refine Qz (M:=[]) (W:=W) (N:=29) (E:=[(0,.agg #[.string nm,.int .i64 9,sb,.int .i64 size,.bool big,.int .i64 mn,.int .i64 mx,.int .i64 stop,.int .i64 count,.int .i64 elem,sn,.slice Ap np cp])]) (O:=[]) ?_ Zl QR;repeat(first|refine Q4 zA ?_|refine Q4 zF ?_|refine Q4 (zB 0) ?_|refine Q4 (zD 0) ?_|refine yB fun br=>?_|(refine Q4 Q3g ?_;rw[(by decide:QE 9=false)])|refine Qd VE rfl Q1 (fun bn _=>?_)|refine Qg ?_|refine Qa ?_|refine Q6 ?_|refine Q9 rfl ?_|refine Q8 rfl ?_|refine QC ?_|refine Qi ?_|refine Qk ?_|refine Qu ?_|refine Q4 zet ?_|refine Q4 zef ?_)
 refine Q7 mc4 rfl (.tmp rfl) (fun w hw=>?_);exact Q2Z hw
theorem Qb2{r:Rl}{Ab An:Option Addr}{cb cn:Nat}{W:World}(hl:RuL W r Ab cb An cn Ap cp)(hk:1<=r.kind/\r.kind<=10)(h7:r.kind=7->1<=r.parts.length)(h8:r.kind=8->1<=r.parts.length):
  Calls Tryz.prog 97 #[.agg (ruC r (.slice Ab r.bs.length cb) (.slice An r.names.length cn) (.slice Ap r.parts.length cp)).toArray] W (BgX W Ap r.parts.length (XO r.kind r.count r.elem r.parts)):=by
 obtain⟨name,kind,bs,size,big,mn,mx,stop,count,elem,names,parts⟩:=r;have hp:=hl.p;have hc:=hl.cp;simp only at hk h7 h8 hp hc ⊢;rcases (show kind=1\/kind=2\/kind=3\/kind=4\/kind=5\/kind=6\/kind=7\/kind=8\/kind=9\/kind=10 by omega) with rfl|rfl|rfl|rfl|rfl|rfl|rfl|rfl|rfl|rfl
 ·exact Qvn hp hc
 ·exact Qut hp hc
 ·exact Qvg hp hc
 ·exact Quv hp hc
 ·exact Qv5 hp hc
 ·exact Qvo hp hc
 ·exact Qvx hp hc (h7 rfl)
 ·exact Qvu hp hc (h8 rfl)
 ·exact Qvi hp hc
 ·exact Quh hp hc
end
end Go.Proofs.YtphkhfdmlcnoeaaGreatDoor
