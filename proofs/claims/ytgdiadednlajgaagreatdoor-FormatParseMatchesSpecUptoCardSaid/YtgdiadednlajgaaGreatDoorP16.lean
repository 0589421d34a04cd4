import Derived.Test.YtgdiadednlajgaaGreatDoorP25
namespace Go.Proofs.YtgdiadednlajgaaGreatDoor
set_option linter.unusedVariables false
set_option linter.unusedSimpArgs false
open Go.RowKit
theorem QM(n l h:Int)(w:World):Calls Tryz.prog 14 #[.int .i64 n,.int .i64 l,.int .i64 h] w fun e w'=>e=.returned (.bool (inB n l h))∧Below w.heap.size w w':=
 (Q6g n l h w).mono fun _ _ ⟨he,hw⟩=>⟨by rw[he];congr 2;rw[Bool.eq_iff_iff,Xo];simp,hw▸Below.refl _ _⟩
theorem JQ{n:Int}(hn:0≤n∧n≤4)(w:World):Calls Tryz.prog 55 #[.int .i64 n] w fun e w'=>e=.returned (.int .i64 ((256:Int) ^ n.toNat))∧Below w.heap.size w w':=by
 obtain⟨m,rfl⟩:∃m:Nat,n=(m:Int):=⟨n.toNat,by omega⟩
 exact(Q6r m (by omega) w).mono fun _ _ ⟨he,hw⟩=>⟨by rw[he,Int.toNat_natCast],hw▸Below.refl _ _⟩
section
variable {A Ab An Ap:Option Addr}{n c cb cn cp:Nat}{W:World}
set_option maxRecDepth 100000 in
set_option maxHeartbeats 16000000 in
theorem Qay{r:Rl}(hk:r.kind=2∨r.kind=3∨r.kind=4∨r.kind=5∨r.kind=6∨r.kind=9∨r.kind=10)(hn:n≤1048576):
  Calls Tryz.prog 50 #[.agg #[.slice A n c],.agg (ruC r (.slice Ab r.bs.length cb) (.slice An r.names.length cn) (.slice Ap r.parts.length cp)).toArray] W (QT W (Qt r.kind r.size r.mn r.mx r.stop r.count r.elem r.parts n)):=by
 obtain⟨name,kind,bs,size,big,mn,mx,stop,count,elem,names,parts⟩:=r
 simp only[ruC] at hk ⊢
 rcases hk with rfl|rfl|rfl|rfl|rfl|rfl|rfl<;>
 ·go_enter Tryz.func50,Tryz.ntmps50
  refine QE (M:=[]) (W:=W) (N:=114) (E:=[(0,.agg #[.slice A n c]),(1,.agg ([.string ⟨name.toArray⟩,.int .i64 _,.slice Ab bs.length cb,.int .i64 size,.bool big,.int .i64 mn,.int .i64 mx,.int .i64 stop,.int .i64 count,.int .i64 elem,.slice An names.length cn,.slice Ap parts.length cp]:List Value).toArray)]) (O:=[]) ?_ (Ag.cons (Ag.cons (Ag.nil rfl rfl) rfl) rfl) (Wd.start [] W)
  repeat' (first|((with_reducible show lE _ _ _ _ _ _ _ _ _);first|refine Q1 zM ?_|refine Q1 zA ?_|refine Q1 zF ?_|refine Q1 zS ?_|refine Q1 (zB 0) ?_|refine Q1 (zB 1) ?_|refine Vk Xo (Q4 (f:=14) rfl rfl (by decide) rfl rfl (fun w hw=>QM _ _ _ w)) (fun _=>?_) (fun _=>?_)|refine yB fun br=>?_|refine Q8 ?_|refine Q1 zL ?_|refine Q1 zet ?_|refine Q1 zef ?_|refine Q1 zY ?_|refine Q1 zN ?_|refine Q1 zO ?_|refine Q1 zQ ?_)|((with_reducible show qE _ _ _ _ _ _ _);first|refine Qd zM ?_|refine Qd zA ?_|refine Qd zF ?_|refine Qd zS ?_|refine Qd (zB 0) ?_|refine Q2G Xo (Q4 (f:=14) rfl rfl (by decide) rfl rfl (fun w hw=>QM _ _ _ w)) (fun _=>?_) (fun _=>?_)|refine Qd (Q4 (f:=55) rfl rfl (by decide) rfl rfl (fun w hw=>JQ (by omega) w)) ?_|refine XS ?_|refine Qd zY ?_|refine Qd zN ?_|refine Q2G Q0g (Xu rfl rfl (by decide) rfl rfl rfl rfl) (fun _=>?_) (fun _=>?_)|refine Q2G Q0g (Q4H rfl rfl (by decide) rfl rfl rfl rfl) (fun _=>?_) (fun _=>?_)|refine Q2G Q0g (Q99 rfl rfl (by decide) rfl rfl rfl rfl) (fun _=>?_) (fun _=>?_))|((with_reducible show sE _ _ _ _ _ _ _ _);first|refine Q6 ?_|refine Q2 ?_|refine Xm (by kernel_rfl) (by kernel_rfl) ?_|refine Qh ?_|refine Q5 rfl ?_|refine Q3 rfl ?_|refine Ql ?_)|((with_reducible show xE _ _ _ _ _ _ _);first|refine Qb ?_|refine Qc ?_))
  all_goals exact Q9 (by exact .inr rfl) rfl (.tmp rfl) (fun w hw=>QB (by simp [Qt,inB];omega) hw)
set_option maxRecDepth 100000 in
set_option maxHeartbeats 16000000 in
theorem Q9F{r:Rl}(hk:r.kind=1∨r.kind=7∨r.kind=8)(hn:n≤1048576)(hpl:r.parts.length≤1048576)(hp:Rd W W.heap.size 1 Ap r.parts.length (iv r.parts)):
  Calls Tryz.prog 50 #[.agg #[.slice A n c],.agg (ruC r (.slice Ab r.bs.length cb) (.slice An r.names.length cn) (.slice Ap r.parts.length cp)).toArray] W (QT W (Qt r.kind r.size r.mn r.mx r.stop r.count r.elem r.parts n)):=by
 have hR:Qt r.kind r.size r.mn r.mx r.stop r.count r.elem r.parts n=!(r.parts.any fun x=>!(inB x 0 ((n:Int) - 1))):=by
  unfold Qt
  rcases hk with h|h|h<;>rw[h]<;>rfl
 rw[hR];clear hR;have HP:=Lib.hid hp;clear hp;obtain⟨name,kind,bs,size,big,mn,mx,stop,count,elem,names,parts⟩:=r
 simp only[ruC] at hk hpl HP ⊢
 rcases hk with rfl|rfl|rfl<;>
 ·go_enter Tryz.func50,Tryz.ntmps50
  refine QE (M:=[]) (W:=W) (N:=114) (E:=[(0,.agg #[.slice A n c]),(1,.agg ([.string ⟨name.toArray⟩,.int .i64 _,.slice Ab bs.length cb,.int .i64 size,.bool big,.int .i64 mn,.int .i64 mx,.int .i64 stop,.int .i64 count,.int .i64 elem,.slice An names.length cn,.slice Ap parts.length cp]:List Value).toArray)]) (O:=[]) ?_ (Ag.cons (Ag.cons (Ag.nil rfl rfl) rfl) rfl) (Wd.start [] W)
  repeat(first|((with_reducible show sE _ _ _ _ _ _ _ _);first|refine Q6 ?_|refine Q2 ?_))
  refine yB fun b2=>?_;refine yB fun b3=>?_;refine yo zA<|yl ?_
  repeat(first|((with_reducible show sE _ _ _ _ _ _ _ _);first|refine Q6 ?_|refine Q2 ?_)|((with_reducible show xE _ _ _ _ _ _ _);refine Qb ?_))
  refine yo zF<|yo (zB 1)<|yo zL<|yo zQ<|yo zA<|yl ?_
  repeat(first|((with_reducible show sE _ _ _ _ _ _ _ _);first|refine Q6 ?_|refine Q2 ?_)|((with_reducible show xE _ _ _ _ _ _ _);refine Qb ?_))
  refine yo zF<|yo (zB 0)<|yo zA<|yl ?_
  repeat(first|((with_reducible show sE _ _ _ _ _ _ _ _);first|refine Q6 ?_|refine Q2 ?_)|((with_reducible show xE _ _ _ _ _ _ _);refine Qb ?_))
  refine yo zM<|yo zef<|yl ?_
  repeat(first|((with_reducible show sE _ _ _ _ _ _ _ _);first|refine Q6 ?_|refine Q2 ?_|refine Qh ?_|refine Q3 rfl ?_)|((with_reducible show xE _ _ _ _ _ _ _);refine Qb ?_))
  refine yo zM<|yo zef<|yl ?_
  repeat(first|((with_reducible show sE _ _ _ _ _ _ _ _);first|refine Q6 ?_|refine Q2 ?_|refine Qh ?_|refine Q3 rfl ?_)|((with_reducible show xE _ _ _ _ _ _ _);refine Qb ?_))
  refine yo zM<|yo zef<|yl ?_
  repeat(first|((with_reducible show sE _ _ _ _ _ _ _ _);first|refine Q6 ?_|refine Q2 ?_|refine Qh ?_|refine Q3 rfl ?_)|((with_reducible show xE _ _ _ _ _ _ _);refine Qb ?_))
  refine yo zM<|yo zef<|yl ?_
  repeat(first|((with_reducible show sE _ _ _ _ _ _ _ _);first|refine Q6 ?_|refine Q2 ?_|refine Qh ?_|refine Q3 rfl ?_)|((with_reducible show xE _ _ _ _ _ _ _);refine Qb ?_))
  refine yo zM<|yo zef<|yl ?_
  repeat(first|((with_reducible show sE _ _ _ _ _ _ _ _);first|refine Q6 ?_|refine Q2 ?_|refine Qh ?_|refine Q3 rfl ?_)|((with_reducible show xE _ _ _ _ _ _ _);refine Qb ?_))
  refine yo zM<|yo zef<|yl ?_
  repeat(first|((with_reducible show sE _ _ _ _ _ _ _ _);first|refine Q6 ?_|refine Q2 ?_|refine Qh ?_|refine Q3 rfl ?_)|((with_reducible show xE _ _ _ _ _ _ _);refine Qb ?_))
  refine yo zM<|yo zef<|yl ?_
  repeat(first|((with_reducible show sE _ _ _ _ _ _ _ _);first|refine Q6 ?_|refine Q2 ?_|refine Qh ?_|refine Q3 rfl ?_)|((with_reducible show xE _ _ _ _ _ _ _);refine Qb ?_))
  refine yo zA<|yl ?_
  repeat(first|((with_reducible show sE _ _ _ _ _ _ _ _);refine Qe ?_)|((with_reducible show xE _ _ _ _ _ _ _);refine Qb ?_))
  refine X0 (ι:=Nat) (fun i=>i≤parts.length∧∀x∈parts.take i,inB x 0 ((n:Int) - 1)=true) (fun i=>parts.length - i) (fun i=>[(2,.pointer (some ⟨b2,0,none⟩)),(3,.pointer (some ⟨b3,0,none⟩)),(5,.int .i64 ((n:Int) - 1)),(7,.int .i64 (i:Int))]) (fun i=>[.blk b3 (.cells ([.string ⟨name.toArray⟩,.int .i64 _,.slice Ab bs.length cb,.int .i64 size,.bool big,.int .i64 mn,.int .i64 mx,.int .i64 stop,.int .i64 count,.int .i64 elem,.slice An names.length cn,.slice Ap parts.length cp]:List Value).toArray 52 (0,0)),.blk b2 (.cells ([.slice A n c]:List Value).toArray 24 (0,0))]) 0 [0,1] (by decide) ⟨Nat.zero_le _,fun x hx=>by cases hx⟩ (.cons rfl rfl (.cons rfl rfl (.cons rfl rfl (.cons rfl rfl .nil)))) rfl ?_
  rintro i ⟨hi,hall⟩
  have HALL:=Lib.hid hall;clear hall
  by_cases hlt:i<parts.length
  ·obtain⟨bp,op,rfl,_,hcell⟩:=HP.out.2 (by omega);obtain⟨x,hx⟩:∃x,parts[i]? =some x:=⟨_,List.getElem?_eq_getElem hlt⟩;have hc0:W.cell? ⟨bp,op+i,none⟩=some (.int .i64 x):=hcell i _ (by unfold iv;rw[List.getElem?_map,hx];rfl);have HX:=Lib.hid hx;clear hcell hx;obtain⟨q,hq⟩:∃q,inB x 0 ((n:Int) - 1)=q:=⟨_,rfl⟩
   cases q with
   |true=>
    have HQ:=Lib.hid hq
    repeat(first|((with_reducible show sE _ _ _ _ _ _ _ _);first|refine Q6 ?_|refine Q2 ?_))
    refine yo zM<|yo zF<|yo (zB 0)<|yo zL<|yo zlt<|yl ?_
    repeat(first|((with_reducible show sE _ _ _ _ _ _ _ _);first|refine Q6 ?_|refine Q2 ?_|refine Qh ?_|refine Q5 rfl ?_|refine Qe ?_)|((with_reducible show xE _ _ _ _ _ _ _);refine Qb ?_))
    refine yo zF<|yo (zB 0)<|yo zM<|yo zi1<|yo zC<|yo zM ?_;refine Q1 (Q4 (f:=14) rfl rfl (by decide) rfl rfl (fun w hw=>(QM _ _ _ w).mono (fun _ _ h=>by rw[hq] at h;exact h))) ?_;refine yo zO<|yl ?_
    repeat(first|((with_reducible show sE _ _ _ _ _ _ _ _);first|refine Q2 ?_|refine Qh ?_|refine Q3 rfl ?_)|((with_reducible show xE _ _ _ _ _ _ _);refine Qb ?_))
    refine yo zM<|yo zP<|yo zA<|yl ?_;refine QA (i+1) [0,1] (by decide) ⟨hlt,fun z hz=>?_⟩ (by omega) (.cons rfl rfl (.cons rfl rfl (.cons rfl rfl (.cons rfl (by go_num) .nil)))) rfl;rw[List.take_add_one,HX.out] at hz
    rcases List.mem_append.1 hz with hz|hz
    ·exact HALL.out z hz
    ·rw[List.mem_singleton.1 hz];exact HQ.out
   |false=>
    repeat(first|((with_reducible show sE _ _ _ _ _ _ _ _);first|refine Q6 ?_|refine Q2 ?_))
    refine yo zM<|yo zF<|yo (zB 0)<|yo zL<|yo zlt<|yl ?_
    repeat(first|((with_reducible show sE _ _ _ _ _ _ _ _);first|refine Q6 ?_|refine Q2 ?_|refine Qh ?_|refine Q5 rfl ?_|refine Qe ?_)|((with_reducible show xE _ _ _ _ _ _ _);refine Qb ?_))
    refine yo zF<|yo (zB 0)<|yo zM<|yo zi1<|yo zC<|yo zM ?_;refine Q1 (Q4 (f:=14) rfl rfl (by decide) rfl rfl (fun w hw=>(QM _ _ _ w).mono (fun _ _ h=>by rw[hq] at h;exact h))) ?_;refine yo zO<|yl ?_
    repeat(first|((with_reducible show sE _ _ _ _ _ _ _ _);first|refine Q6 ?_|refine Q2 ?_|refine Q5 rfl ?_)|((with_reducible show xE _ _ _ _ _ _ _);refine Qb ?_))
    refine yo zA<|yl ?_
    repeat(first|((with_reducible show sE _ _ _ _ _ _ _ _);refine Ql ?_)|((with_reducible show xE _ _ _ _ _ _ _);first|refine Qb ?_|refine Qc ?_|refine Qf ?_))
    refine Q9 (by exact .inr rfl) rfl (.tmp rfl) (fun w hw=>QB ?_ hw);have h:parts.any (fun x=>!(inB x 0 ((n:Int) - 1)))=true:=List.any_eq_true.2 ⟨x,List.mem_of_getElem? HX.out,by rw[hq];rfl⟩;rw[h]
    rfl
  ·skip
   repeat(first|((with_reducible show sE _ _ _ _ _ _ _ _);first|refine Q6 ?_|refine Q2 ?_))
   refine yo zM<|yo zF<|yo (zB 0)<|yo zL<|yo zlf<|yl ?_
   repeat(first|((with_reducible show sE _ _ _ _ _ _ _ _);first|refine Q6 ?_|refine Q2 ?_|refine Q3 rfl ?_|refine QX ?_)|((with_reducible show xE _ _ _ _ _ _ _);refine Qb ?_))
   refine yo zA<|yl ?_
   repeat(first|((with_reducible show sE _ _ _ _ _ _ _ _);refine Ql ?_)|((with_reducible show xE _ _ _ _ _ _ _);refine Qb ?_))
   refine Q9 (by exact .inr rfl) rfl (.tmp rfl) (fun w hw=>QB ?_ hw)
   have h:parts.any (fun x=>!(inB x 0 ((n:Int) - 1)))=false:=List.any_eq_false.2 fun x hx=>by
    rw[HALL.out x (by rw[List.take_of_length_le (by omega)];exact hx)];exact Bool.false_ne_true
   rw[h]
   rfl
theorem Q4i{r:Rl}(hk:1≤r.kind∧r.kind≤10)(hn:n≤1048576)(hpl:r.parts.length≤1048576)(hp:Rd W W.heap.size 1 Ap r.parts.length (iv r.parts)):
  Calls Tryz.prog 50 #[.agg #[.slice A n c],.agg (ruC r (.slice Ab r.bs.length cb) (.slice An r.names.length cn) (.slice Ap r.parts.length cp)).toArray] W (QT W (Qt r.kind r.size r.mn r.mx r.stop r.count r.elem r.parts n)):=by
 rcases (show (r.kind=2∨r.kind=3∨r.kind=4∨r.kind=5∨r.kind=6∨r.kind=9∨r.kind=10)∨(r.kind=1∨r.kind=7∨r.kind=8) by omega) with h|h
 ·exact Qay h hn
 ·exact Q9F h hn hpl hp
end
theorem JK{k size mn mx stop count elem:Int}{big:Bool}{nb nn np:Nat}:XI k size big mn mx stop count elem nb nn np=true↔(nb=0∨k=1)∧(stop=0∨k=3∨k=5∨k=9)∧(size=0∨k=2∨k=4∨k=5)∧((big=false∧mn=0)∨k=2)∧(mx=0∨k=2∨k=3)∧(count=0∨k=6∨k=10)∧(elem=0∨k=6∨k=9)∧(nn=0∨k=7)∧(np=0∨k=7∨k=8):=by
 simp [XI,Z7,Z4,Zf,Qp,XJ,JZ,Zu,and_assoc,or_assoc]
section
variable {k size mn mx stop count elem:Int}{big:Bool}{nb nn np:Nat}
theorem Q26(hb:big=false)(h:(nb=0∨k=1)∧(stop=0∨k=3∨k=5∨k=9)∧(size=0∨k=2∨k=4∨k=5)∧(mn=0∨k=2)∧(mx=0∨k=2∨k=3)∧(count=0∨k=6∨k=10)∧(elem=0∨k=6∨k=9)∧(nn=0∨k=7)∧(np=0∨k=7∨k=8)):false=!(XI k size big mn mx stop count elem nb nn np):=by
 rw[JK.2 ⟨h.1,h.2.1,h.2.2.1,h.2.2.2.1.imp (fun x=>⟨hb,x⟩) id,h.2.2.2.2⟩]
 rfl
theorem Qah(hk:k=2)(h:nb=0∧stop=0∧count=0∧elem=0∧nn=0∧np=0):false=!(XI k size big mn mx stop count elem nb nn np):=by
 rw[JK.2 ⟨.inl h.1,.inl h.2.1,.inr (.inl hk),.inr hk,.inr (.inl hk),.inl h.2.2.1,.inl h.2.2.2.1,.inl h.2.2.2.2.1,.inl h.2.2.2.2.2⟩]
 rfl
theorem Q25(hb:big=true)(hk:k≠2):true=!(XI k size big mn mx stop count elem nb nn np):=by
 have h:XI k size big mn mx stop count elem nb nn np=false:=by
  cases hf:XI k size big mn mx stop count elem nb nn np with
  |false=>rfl
  |true=>
   rcases (JK.1 hf).2.2.2.1 with h|h
   ·rw[hb] at h;cases h.1
   ·exact absurd h hk
 rw[h]
 rfl
theorem Q1E(h:¬((nb=0∨k=1)∧(stop=0∨k=3∨k=5∨k=9)∧(size=0∨k=2∨k=4∨k=5)∧(mn=0∨k=2)∧(mx=0∨k=2∨k=3)∧(count=0∨k=6∨k=10)∧(elem=0∨k=6∨k=9)∧(nn=0∨k=7)∧(np=0∨k=7∨k=8))):true=!(XI k size big mn mx stop count elem nb nn np):=by
 have h1:XI k size big mn mx stop count elem nb nn np=false:=by
  cases hf:XI k size big mn mx stop count elem nb nn np with
  |false=>rfl
  |true=>
   have h2:=JK.1 hf;exact absurd ⟨h2.1,h2.2.1,h2.2.2.1,h2.2.2.2.1.imp (fun x=>x.2) id,h2.2.2.2.2⟩ h
 rw[h1]
 rfl
end
section
variable {A Ab An Ap:Option Addr}{n c cb cn cp:Nat}{W:World}
set_option maxRecDepth 100000 in
set_option maxHeartbeats 16000000 in
theorem QaI{r:Rl}(hk:r.kind=1∨r.kind=2∨r.kind=3):
  Calls Tryz.prog 49 #[.agg (ruC r (.slice Ab r.bs.length cb) (.slice An r.names.length cn) (.slice Ap r.parts.length cp)).toArray] W (QT W (!(XI r.kind r.size r.big r.mn r.mx r.stop r.count r.elem r.bs.length r.names.length r.parts.length))):=by
 obtain⟨name,kind,bs,size,big,mn,mx,stop,count,elem,names,parts⟩:=r
 simp only[ruC] at hk ⊢
 rcases hk with rfl|rfl|rfl<;>
 ·go_enter Tryz.func49,Tryz.ntmps49
  refine QE (M:=[]) (W:=W) (N:=118) (E:=[(0,.agg ([.string ⟨name.toArray⟩,.int .i64 _,.slice Ab bs.length cb,.int .i64 size,.bool big,.int .i64 mn,.int .i64 mx,.int .i64 stop,.int .i64 count,.int .i64 elem,.slice An names.length cn,.slice Ap parts.length cp]:List Value).toArray)]) (O:=[]) ?_ (Ag.cons (Ag.nil rfl rfl) rfl) (Wd.start [] W)
  repeat' (first|((with_reducible show lE _ _ _ _ _ _ _ _ _);first|refine Vk Q5w (zB 0) (fun _=>?_) (fun _=>?_)|refine Q1 zM ?_|refine Q1 zA ?_|refine Q1 zF ?_|refine Q1 zS ?_|refine Q1 (zB 0) ?_|refine yB fun br=>?_|refine Q8 ?_|refine Q1 zL ?_|refine Q1 znt ?_|refine Q1 znf ?_|refine Q1 zY ?_|refine Q1 zN ?_|refine Vk bne_iff_ne (VE rfl rfl (by decide) rfl rfl rfl rfl) (fun _=>?_) (fun _=>?_)|refine Vk Q0g (Ja rfl rfl (by decide) rfl rfl rfl rfl) (fun _=>?_) (fun _=>?_))|((with_reducible show sE _ _ _ _ _ _ _ _);first|refine Q6 ?_|refine Q2 ?_|refine Qh ?_|refine Q5 rfl ?_|refine Q3 rfl ?_|refine Ql ?_)|((with_reducible show xE _ _ _ _ _ _ _);first|refine Qb ?_|refine Qc ?_))
  all_goals exact Q9 (by exact .inr rfl) rfl (.tmp rfl) (fun w hw=>QB (by first|exact Q1E (by omega)|exact Q25 (by assumption) (by decide)|exact Q26 (Bool.eq_false_iff.2 (by assumption)) (by omega)|exact Qah rfl (by omega)) hw)
end
section
variable {A Ab An Ap:Option Addr}{n c cb cn cp:Nat}{W:World}
set_option maxRecDepth 100000 in
set_option maxHeartbeats 16000000 in
theorem Qbp{r:Rl}(hk:r.kind=4∨r.kind=5∨r.kind=6):
  Calls Tryz.prog 49 #[.agg (ruC r (.slice Ab r.bs.length cb) (.slice An r.names.length cn) (.slice Ap r.parts.length cp)).toArray] W (QT W (!(XI r.kind r.size r.big r.mn r.mx r.stop r.count r.elem r.bs.length r.names.length r.parts.length))):=by
 obtain⟨name,kind,bs,size,big,mn,mx,stop,count,elem,names,parts⟩:=r
 simp only[ruC] at hk ⊢
 rcases hk with rfl|rfl|rfl<;>
 ·go_enter Tryz.func49,Tryz.ntmps49
  refine QE (M:=[]) (W:=W) (N:=118) (E:=[(0,.agg ([.string ⟨name.toArray⟩,.int .i64 _,.slice Ab bs.length cb,.int .i64 size,.bool big,.int .i64 mn,.int .i64 mx,.int .i64 stop,.int .i64 count,.int .i64 elem,.slice An names.length cn,.slice Ap parts.length cp]:List Value).toArray)]) (O:=[]) ?_ (Ag.cons (Ag.nil rfl rfl) rfl) (Wd.start [] W)
  repeat' (first|((with_reducible show lE _ _ _ _ _ _ _ _ _);first|refine Vk Q5w (zB 0) (fun _=>?_) (fun _=>?_)|refine Q1 zM ?_|refine Q1 zA ?_|refine Q1 zF ?_|refine Q1 zS ?_|refine Q1 (zB 0) ?_|refine yB fun br=>?_|refine Q8 ?_|refine Q1 zL ?_|refine Q1 znt ?_|refine Q1 znf ?_|refine Q1 zY ?_|refine Q1 zN ?_|refine Vk bne_iff_ne (VE rfl rfl (by decide) rfl rfl rfl rfl) (fun _=>?_) (fun _=>?_)|refine Vk Q0g (Ja rfl rfl (by decide) rfl rfl rfl rfl) (fun _=>?_) (fun _=>?_))|((with_reducible show sE _ _ _ _ _ _ _ _);first|refine Q6 ?_|refine Q2 ?_|refine Qh ?_|refine Q5 rfl ?_|refine Q3 rfl ?_|refine Ql ?_)|((with_reducible show xE _ _ _ _ _ _ _);first|refine Qb ?_|refine Qc ?_))
  all_goals exact Q9 (by exact .inr rfl) rfl (.tmp rfl) (fun w hw=>QB (by first|exact Q1E (by omega)|exact Q25 (by assumption) (by decide)|exact Q26 (Bool.eq_false_iff.2 (by assumption)) (by omega)) hw)
end
section
variable {A Ab An Ap:Option Addr}{n c cb cn cp:Nat}{W:World}
set_option maxRecDepth 100000 in
set_option maxHeartbeats 16000000 in
theorem QbV{r:Rl}(hk:r.kind=7∨r.kind=8∨r.kind=9∨r.kind=10):
  Calls Tryz.prog 49 #[.agg (ruC r (.slice Ab r.bs.length cb) (.slice An r.names.length cn) (.slice Ap r.parts.length cp)).toArray] W (QT W (!(XI r.kind r.size r.big r.mn r.mx r.stop r.count r.elem r.bs.length r.names.length r.parts.length))):=by
 obtain⟨name,kind,bs,size,big,mn,mx,stop,count,elem,names,parts⟩:=r
 simp only[ruC] at hk ⊢
 rcases hk with rfl|rfl|rfl|rfl<;>
 ·go_enter Tryz.func49,Tryz.ntmps49
  refine QE (M:=[]) (W:=W) (N:=118) (E:=[(0,.agg ([.string ⟨name.toArray⟩,.int .i64 _,.slice Ab bs.length cb,.int .i64 size,.bool big,.int .i64 mn,.int .i64 mx,.int .i64 stop,.int .i64 count,.int .i64 elem,.slice An names.length cn,.slice Ap parts.length cp]:List Value).toArray)]) (O:=[]) ?_ (Ag.cons (Ag.nil rfl rfl) rfl) (Wd.start [] W)
  repeat' (first|((with_reducible show lE _ _ _ _ _ _ _ _ _);first|refine Vk Q5w (zB 0) (fun _=>?_) (fun _=>?_)|refine Q1 zM ?_|refine Q1 zA ?_|refine Q1 zF ?_|refine Q1 zS ?_|refine Q1 (zB 0) ?_|refine yB fun br=>?_|refine Q8 ?_|refine Q1 zL ?_|refine Q1 znt ?_|refine Q1 znf ?_|refine Q1 zY ?_|refine Q1 zN ?_|refine Vk bne_iff_ne (VE rfl rfl (by decide) rfl rfl rfl rfl) (fun _=>?_) (fun _=>?_)|refine Vk Q0g (Ja rfl rfl (by decide) rfl rfl rfl rfl) (fun _=>?_) (fun _=>?_))|((with_reducible show sE _ _ _ _ _ _ _ _);first|refine Q6 ?_|refine Q2 ?_|refine Qh ?_|refine Q5 rfl ?_|refine Q3 rfl ?_|refine Ql ?_)|((with_reducible show xE _ _ _ _ _ _ _);first|refine Qb ?_|refine Qc ?_))
  all_goals exact Q9 (by exact .inr rfl) rfl (.tmp rfl) (fun w hw=>QB (by first|exact Q1E (by omega)|exact Q25 (by assumption) (by decide)|exact Q26 (Bool.eq_false_iff.2 (by assumption)) (by omega)) hw)
end
theorem Q36(c:UInt8):wrap64 (c.toNat:Int)=(c.toNat:Int):=by
 have:=c.toNat_lt
 unfold wrap64
 omega
theorem Q0k{n l h:Int}{b:Bool}(e:(decide (l≤n)&&decide (n≤h))=b)(w:World):
  Calls Tryz.prog 14 #[.int .i64 n,.int .i64 l,.int .i64 h] w fun e w'=>e=.returned (.bool b)∧w=w':=by
 rw[← e];exact Q6g n l h w
def QeZ(s:ByteArray)(k:Value):Prop:=∃i:Nat,k=.int .i64 (i:Int)∧i≤s.size∧(s.data.toList.take i).all okC=true
theorem Q5Z{s:ByteArray}{i:Nat}(h:(s.data.toList.take i).all okC=true)(hi:i<s.size)(hc:okC s[i]=true):(s.data.toList.take (i+1)).all okC=true:=by
 have hx:=Q17 hi;obtain⟨h1,h2⟩:=List.getElem?_eq_some_iff.1 hx;rw[List.take_succ_eq_append_getElem h1,List.all_append,h,h2]
 simp [hc]
theorem QdM{s:ByteArray}{i:Nat}(hi:i<s.size)(hc:okC s[i]=false):s.data.toList.all okC=false:=by
 have hx:=Q17 hi;obtain⟨h1,h2⟩:=List.getElem?_eq_some_iff.1 hx;rw[List.all_eq_false];exact⟨s[i],by rw[← h2];exact List.getElem_mem h1,by simp [hc]⟩
set_option maxRecDepth 100000 in
set_option maxHeartbeats 1000000 in
theorem Q4b(s:ByteArray)(w:World)(hs:s.size≤9223372036854775807):Calls Tryz.prog 48 #[.string s] w fun e w'=>e=.returned (.bool (Qi s.data.toList))∧w=w':=by
 by_cases h0:1≤s.size∧s.size≤32
 ·obtain⟨hp,h32⟩:=h0
  have b1:(decide ((1:Int)≤(s.size:Int))&&decide ((s.size:Int)≤32))=true:=by simp;omega
  have hpos:0<s.size:=by omega
  have HX:=Q17 (s:=s) (k:=0) hpos
  by_cases hc:97≤s[0].toNat∧s[0].toNat≤122
  ·have HK:=Lib.hid (Q3X (l:=s.data.toList) (by simpa using h32) HX hc)
   have b2:(decide ((97:Int)≤(s[0].toNat:Int))&&decide ((s[0].toNat:Int)≤122))=true:=by simp;omega
   clear HX hc
   go_enter Tryz.func48,Tryz.ntmps48
   go_wp2_with fail
   refine(Q0k b1 _).mono ?_
   rintro e w' ⟨rfl,rfl⟩
   go_wp2_with fail
   try rw[Q36]
   refine(Q0k b2 _).mono ?_
   rintro e w' ⟨rfl,rfl⟩
   go_wp2_with fail
   go_loop [3] (QeZ s) (fun k=>s.size - (intOf k).toNat)
   case atStart=>exact⟨0,rfl,Nat.zero_le _,rfl⟩
   case round=>
    obtain⟨i,rfl,hi,hall⟩:=hrel;have HA:=Lib.hid hall;clear hall b1 b2
    by_cases hlt:i<s.size
    ·have hli:(i:Int)<(s.size:Int):=by omega
     have h00:(0:Int)≤(i:Int):=by omega
     have HLT:=Lib.hid hlt;obtain⟨c,hc⟩:∃c,s[i].toNat=c:=⟨_,rfl⟩;have HC:=Lib.hid hc
     by_cases k1:97≤c∧c≤122
     ·have HOK:=Lib.hid (Q5Z HA.out hlt (Q0J (by omega) (by omega)))
      have b1:(decide ((97:Int)≤(s[i].toNat:Int))&&decide ((s[i].toNat:Int)≤122))=true:=by simp;omega
      clear k1 hc
      go_wp2_with fail
      try rw[Q36]
      refine(Q0k b1 _).mono ?_
      rintro e w' ⟨rfl,rfl⟩
      go_wp2_with fail
      go_round
      case rel=>exact⟨i+1,by go_num,hlt,HOK.out⟩
      case measure=>simp [intOf];omega
     ·have b1:(decide ((97:Int)≤(s[i].toNat:Int))&&decide ((s[i].toNat:Int)≤122))=false:=by
       rw[Bool.and_eq_false_iff,decide_eq_false_iff_not,decide_eq_false_iff_not];omega
      by_cases k2:48≤c∧c≤57
      ·have HOK:=Lib.hid (Q5Z HA.out hlt (Q1Q (by omega) (by omega)))
       have b2:(decide ((48:Int)≤(s[i].toNat:Int))&&decide ((s[i].toNat:Int)≤57))=true:=by simp;omega
       clear k1 k2 hc
       go_wp2_with fail
       try rw[Q36]
       refine(Q0k b1 _).mono ?_
       rintro e w' ⟨rfl,rfl⟩
       go_wp2_with fail
       try rw[Q36]
       refine(Q0k b2 _).mono ?_
       rintro e w' ⟨rfl,rfl⟩
       go_wp2_with fail
       go_round
       case rel=>exact⟨i+1,by go_num,hlt,HOK.out⟩
       case measure=>simp [intOf];omega
      ·have b2:(decide ((48:Int)≤(s[i].toNat:Int))&&decide ((s[i].toNat:Int)≤57))=false:=by
        rw[Bool.and_eq_false_iff,decide_eq_false_iff_not,decide_eq_false_iff_not];omega
       have hok:okC s[i]=Q0W s[i]:=Q21 (by omega) (by omega);clear k1 k2
       go_wp2_with fail
       try rw[Q36]
       refine(Q0k b1 _).mono ?_
       rintro e w' ⟨rfl,rfl⟩
       go_wp2_with fail
       try rw[Q36]
       refine(Q0k b2 _).mono ?_
       rintro e w' ⟨rfl,rfl⟩
       by_cases k3:s[i]=45∨s[i]=95∨s[i]=46
       ·have HOK:=Lib.hid (Q5Z HA.out hlt (hok.trans (by rcases k3 with e|e|e<;>rw[e]<;>decide)))
        have hcc:(s[i].toNat:Int)=45∨(s[i].toNat:Int)=95∨(s[i].toNat:Int)=46:=by rcases k3 with e|e|e<;>rw[e]<;>decide
        clear k3 hok HC hc c
        rcases hcc with e|e|e
        ·go_wp2_with fail
         go_round
         case rel=>exact⟨i+1,by go_num,hlt,HOK.out⟩
         case measure=>simp [intOf];omega
        ·go_wp2_with fail
         go_round
         case rel=>exact⟨i+1,by go_num,hlt,HOK.out⟩
         case measure=>simp [intOf];omega
        ·have m1:((s[i].toNat:Int) != 45)=true:=by rw[e];decide
         have m2:((s[i].toNat:Int) != 95)=true:=by rw[e];decide
         have m3:((s[i].toNat:Int) != 46)=false:=by rw[e];decide
         go_wp2_with fail
         ·rename_i h
          exact absurd (m3.symm.trans h.2) (by decide)
         ·go_round
          case rel=>exact⟨i+1,by go_num,hlt,HOK.out⟩
          case measure=>simp [intOf];omega
       ·have HOK:=Lib.hid (QdM hlt (hok.trans (by simpa [Q0W,and_assoc] using k3)))
        have n1:¬(s[i].toNat:Int)=45:=fun e=>k3 (.inl (UInt8.toNat_inj.1 (by show s[i].toNat=45;omega)))
        have n2:¬(s[i].toNat:Int)=95:=fun e=>k3 (.inr (.inl (UInt8.toNat_inj.1 (by show s[i].toNat=95;omega))))
        have n3:¬(s[i].toNat:Int)=46:=fun e=>k3 (.inr (.inr (UInt8.toNat_inj.1 (by show s[i].toNat=46;omega))))
        clear k3 hok HC hc c
        have m1:((s[i].toNat:Int) != 45)=true:=by simpa using n1
        have m2:((s[i].toNat:Int) != 95)=true:=by simpa using n2
        have m3:((s[i].toNat:Int) != 46)=true:=by simpa using n3
        go_wp2_with fail
        ·go_ret
         exact⟨by rw[HK.out,HOK.out];rfl,rfl⟩
        ·rename_i h
         rcases h with (h|h)|h
         ·exact absurd (m1.symm.trans h) (by decide)
         ·exact absurd (m2.symm.trans h) (by decide)
         ·exact absurd (m3.symm.trans h) (by decide)
    ·have HK2:=Lib.hid (show s.data.toList.all okC=true by have:=HA.out;rw[List.take_of_length_le (by simp;omega)] at this;exact this)
     go_wp2_with fail
     go_ret
     exact⟨by rw[HK.out,HK2.out];rfl,rfl⟩
  ·have HK:=Lib.hid (Q2s (l:=s.data.toList) HX hc)
   have b2:(decide ((97:Int)≤(s[0].toNat:Int))&&decide ((s[0].toNat:Int)≤122))=false:=by
    rw[Bool.and_eq_false_iff,decide_eq_false_iff_not,decide_eq_false_iff_not];omega
   clear HX hc
   go_enter Tryz.func48,Tryz.ntmps48
   go_wp2_with fail
   refine(Q0k b1 _).mono ?_
   rintro e w' ⟨rfl,rfl⟩
   go_wp2_with fail
   try rw[Q36]
   refine(Q0k b2 _).mono ?_
   rintro e w' ⟨rfl,rfl⟩
   go_wp2_with fail
   go_ret
   exact⟨by rw[HK.out];rfl,rfl⟩
 ·have HK:=Lib.hid (show Qi s.data.toList=false by
   rcases Nat.eq_zero_or_pos s.size with h|h
   ·rw[List.eq_nil_of_length_eq_zero (l:=s.data.toList) (by simpa using h)];rfl
   ·exact Q2h (by simp;omega))
  have b1:(decide ((1:Int)≤(s.size:Int))&&decide ((s.size:Int)≤32))=false:=by
   rw[Bool.and_eq_false_iff,decide_eq_false_iff_not,decide_eq_false_iff_not];omega
  clear h0
  go_enter Tryz.func48,Tryz.ntmps48
  go_wp2_with fail
  refine(Q0k b1 _).mono ?_
  rintro e w' ⟨rfl,rfl⟩
  go_wp2_with fail
  go_ret
  exact⟨by rw[HK.out];rfl,rfl⟩
theorem Q96{old:List Int}(h:∀j:Nat,-1≤old.getD j 0∧old.getD j 0≤1001):∀(l:List Int) (n:Int),-1≤n→n≤1001→-1≤Kv old n l∧Kv old n l≤1001
 |[],n,h1,h2=>⟨h1,h2⟩
 |x::l,n,h1,h2=>by
  rw[Q4M];have hx:=h x.toNat;have e:lk old x=old.getD x.toNat 0:=rfl;rw[← e] at hx
  generalize lk old x=X at hx ⊢
  apply Q96 h l<;>·rw[Zz];split<;>split<;>omega
theorem Q9q{old:List Int}(h:∀j:Nat,-1≤old.getD j 0∧old.getD j 0≤1001):∀(l:List Int) (n:Int),-1≤n→n≤1001→-1≤YJ old n l∧YJ old n l≤1001
 |[],n,h1,h2=>⟨h1,h2⟩
 |x::l,n,h1,h2=>by
  rw[Q4Y];have hx:=h x.toNat;have e:lk old x=old.getD x.toNat 0:=rfl;rw[← e] at hx
  generalize lk old x=X at hx ⊢
  apply Q9q h l<;>·split<;>omega
theorem Qdc{F:List Rl}{old:List Int}(hu:Usd F)(h:∀j:Nat,-1≤old.getD j 0∧old.getD j 0≤1001){i:Nat}{r:Rl}(hr:F[i]? =some r):-1≤V2 F old r∧V2 F old r≤1001:=by
 have ho:=hu.ok i r hr;have h16:=ho.bs16;have h4:=ho.size4;have h2:=ho.num;have hl:=hu.least hr;have hcx:=h r.count.toNat;have hex:=h r.elem.toNat;have e1:lk old r.count=old.getD r.count.toNat 0:=rfl;have e2:lk old r.elem=old.getD r.elem.toNat 0:=rfl;rw[← e1] at hcx;rw[← e2] at hex
 generalize hX:lk old r.count=X at hcx
 generalize hY:lk old r.elem=Y at hex
 unfold V2
 rw[hX,hY]
 generalize hL:VQ F r.count=L at hl
 split
 ·omega
 ·split
  ·next hk=>
   rcases hk with hk|hk
   ·have:=h2 hk;omega
   ·have:=h4 hk;omega
  ·split
   ·omega
   ·split
    ·omega
    ·split
     ·next hk=>
      have hL':=hl (.inl hk)
      split
      ·exact hcx
      ·split
       ·next hk2=>
        have hm:=Int.mul_nonneg (show 0≤L by omega) hk2.2;rw[Zz]
        omega
       ·omega
     ·split
      ·next hk=>
       have hL':=hl (.inr hk)
       split
       ·rw[Zz];omega
       ·omega
      ·split
       ·exact Q96 h _ _ (by decide) (by decide)
       ·split
        ·exact Q9q h _ _ (by decide) (by decide)
        ·omega
theorem Qaj{F:List Rl}{old:List Int}(hu:Usd F)(h:∀j:Nat,-1≤old.getD j 0∧old.getD j 0≤1001)(j:Nat):-1≤(Jz F old).getD j 0∧(Jz F old).getD j 0≤1001:=by
 rcases hj:F[j]? with _|r
 ·unfold Jz
  rw[List.getD_eq_getElem?_getD,List.getElem?_map,hj]
  show -1≤(0:Int)∧(0:Int)≤1001
  decide
 ·rw[Q3j hj];exact Qdc hu h hj
theorem Q4Q{F:List Rl}(hu:Usd F):∀(t j:Nat),-1≤(ZV F t).getD j 0∧(ZV F t).getD j 0≤1001
 |0,j=>by
  show -1≤(List.replicate F.length (-1:Int)).getD j 0∧(List.replicate F.length (-1:Int)).getD j 0≤1001
  rw[List.getD_eq_getElem?_getD,List.getElem?_replicate]
  split<;>exact⟨by decide,by decide⟩
 |t+1,j=>Qaj hu (Q4Q hu t) j
theorem Q3a.wdn{W w w':World}{O:List Qg}{l:List Int}{n:Nat}{e:Ending}(h:Q3a w l e w')(hl:l.length=n)(hw:Wd [] W O w):QW (fun y:Option Addr×Nat=>.slice y.1 n y.2) (fun _=>True) [] W (fun y=>.row y.1 n y.2 3 1 (iv l)::O) e w':=hl▸h.wd hw
theorem Qcc(i:Nat):iv (List.replicate i (-1))++[.int .i64 (-1)]=iv (List.replicate (i+1) (-1)):=by
 rw[ZE]
 congr 1
 exact List.replicate_succ'.symm
section
variable {A:Option Addr}{n c:Nat}{W:World}{F:List Rl}
set_option maxRecDepth 100000 in
set_option maxHeartbeats 32000000 in
theorem Q0r(hf:Xq W W.heap.size A n F)(hu:Usd F)(hn:n≤40)(hn0:0<n):
  Calls Tryz.prog 18 #[.agg #[.slice A n c]] W (Q3a W (XG F)):=by
 have hlen:F.length=n:=hf.1;obtain⟨b,o,rfl⟩:=hf.addr (by omega);have HFM:=Lib.hid hf;have HU:=Lib.hid hu;have HLEN:=Lib.hid hlen;clear hf hu hlen
 go_enter Tryz.func18,Tryz.ntmps18
 refine QE (M:=[]) (W:=W) (N:=28) (E:=[(0,.agg #[.slice (some ⟨b,o,none⟩) n c])]) (O:=[]) ?_ (Ag.cons (Ag.nil rfl rfl) rfl) (Wd.start [] W);refine yq<|yr ?_;refine yB fun b1=>?_;refine yo zA<|yl<|yn<|yq<|yr<|yo zA<|yl<|yn<|yq<|yq<|yr<|yo zA<|yl<|yn<|yb ?_;refine JI 3 1 ?_;refine ZF (ι:=Nat×Option Addr×Nat) (fun y=>y.1≤n) (fun y=>n - y.1) (fun y=>[(1,.pointer (some ⟨b1,0,none⟩)),(3,.slice y.2.1 y.1 y.2.2),(4,.int .i64 (y.1:Int))]) (fun y=>[.row y.2.1 y.1 y.2.2 3 1 (iv (List.replicate y.1 (-1))),.blk b1 (.cells ([.slice (some ⟨b,o,none⟩) n c]:List Value).toArray 24 (0,0))]) (0,none,0) (Nat.zero_le _) (.cons rfl rfl (.cons rfl rfl (.cons rfl rfl .nil))) (fun w hw=>hw) ?_
 rintro⟨i,A1,c1⟩ hi
 replace hi:i≤n:=hi
 show sE _ _ _ _ _ [(1,.pointer (some ⟨b1,0,none⟩)),(3,.slice A1 i c1),(4,.int .i64 (i:Int))] [.row A1 i c1 3 1 (iv (List.replicate i (-1))),.blk b1 (.cells ([.slice (some ⟨b,o,none⟩) n c]:List Value).toArray 24 (0,0))] _
 by_cases hin:i<n
 ·refine yq<|yq<|yr<|yo zM<|yo zF<|yo (zB 1)<|yo zL<|yo zlt<|yl<|yn<|y1<|ys<|yn<|yq<|yb<|yr<|yo zM ?_;refine Qa (Qz (size:=1) rfl rfl rfl rfl rfl (by decide)) rfl (by decide) (fun bn _=>?_);refine Qa (QC 1 rfl rfl rfl rfl rfl (fun w hw=>hw.rd_blk 0 rfl rfl) (by simp [Value.oneCell']) (by omega)) rfl (by decide) (fun z _=>?_);refine yo zA<|yl<|yn<|yr<|yo zM<|yo zP<|yo zA<|yl ?_;refine QH (i+1,z.1,z.2) hin (by show n - (i+1)<n - i;omega) (.cons rfl rfl (.cons rfl rfl (.cons rfl (by go_num) .nil))) (fun w hw=>?_)
  show Wd [] W [.row z.1 (i+1) z.2 3 1 (iv (List.replicate (i+1) (-1))),_] w
  rw[← Qcc];exact hw.tl
 ·obtain rfl:i=n:=by omega
  refine yq<|yq<|yr<|yo zM<|yo zF<|yo (zB 1)<|yo zL<|yo zlf<|yl<|yn<|y0<|ye<|yn<|yq<|yq<|yr<|yo zA<|yl<|yn<|yb ?_;refine ZF (ι:=Nat×Option Addr×Nat) (fun y=>y.1≤2*i+1) (fun y=>2*i+1 - y.1) (fun y=>[(1,.pointer (some ⟨b1,0,none⟩)),(3,.slice y.2.1 i y.2.2),(5,.int .i64 (y.1:Int))]) (fun y=>[.row y.2.1 i y.2.2 3 1 (iv (ZV F y.1)),.blk b1 (.cells ([.slice (some ⟨b,o,none⟩) i c]:List Value).toArray 24 (0,0))]) (0,A1,c1) (Nat.zero_le _) (.cons rfl rfl (.cons rfl rfl (.cons rfl rfl .nil))) (fun w hw=>by rw[← HLEN.out] at hw ⊢;exact hw) ?_
  rintro⟨k,A2,c2⟩ hk
  replace hk:k≤2*i+1:=hk
  show sE _ _ _ _ _ [(1,.pointer (some ⟨b1,0,none⟩)),(3,.slice A2 i c2),(5,.int .i64 (k:Int))] [.row A2 i c2 3 1 (iv (ZV F k)),.blk b1 (.cells ([.slice (some ⟨b,o,none⟩) i c]:List Value).toArray 24 (0,0))] _
  by_cases hkn:k≤2*i
  ·refine yq<|yq<|yr<|yo zM<|yo zF<|yo (zB 1)<|yo zL ?_;refine Q1 (Q56 (k:=.i64) rfl rfl (by decide) rfl rfl rfl (IntWalk.i64_in _ (by omega))) ?_;refine yo zqt<|yl<|yn<|y1<|ys<|yn<|yq<|yb<|yr<|yo (zD 1)<|yo zM ?_;refine Qa (Qx (f:=36) (fun y:Option Addr×Nat=>.slice y.1 i y.2) (fun _=>True) (fun y=>[.row y.1 i y.2 3 1 (iv (ZV F (k+1))),.row A2 i c2 3 1 (iv (ZV F k)),.blk b1 (.cells ([.slice (some ⟨b,o,none⟩) i c]:List Value).toArray 24 (0,0))]) rfl rfl rfl (fun w hw=>(Q6q (W:=w) (HFM.out.on hw.k.below) HU.out hn (Rd.of_own (hw.own 0 _ rfl)) (Q4Q HU.out k) hn0).mono fun _ _ h=>h.wdn (by rw[Q0D];exact HLEN.out) hw)) rfl (by decide) (fun z _=>?_);refine yo zA<|yl<|yn<|yr<|yo zM<|yo zP<|yo zA<|yl ?_;refine QH (k+1,z.1,z.2) (by show k+1≤2*i+1;omega) (by show 2*i+1 - (k+1)<2*i+1 - k;omega) (.cons rfl rfl (.cons rfl rfl (.cons rfl (by go_num) .nil))) (fun w hw=>hw.no2)
  ·obtain rfl:k=2*i+1:=by omega
   refine yq<|yq<|yr<|yo zM<|yo zF<|yo (zB 1)<|yo zL ?_;refine Q1 (Q56 (k:=.i64) rfl rfl (by decide) rfl rfl rfl (IntWalk.i64_in _ (by omega))) ?_;refine yo zqf<|yl<|yn<|y0<|ye<|yn<|yq<|yr<|yo zM<|yo zA<|yl<|yn<|yt ?_;refine Q9 (by exact .inr rfl) rfl (.tmp rfl) (fun w hw=>?_)
   have h:ZV F (2*i+1)=XG F:=by unfold XG;rw[HLEN.out]
   have hw2:Wd [] W [.row A2 i c2 3 1 (iv (ZV F (2*i+1))),.blk b1 (.cells ([.slice (some ⟨b,o,none⟩) i c]:List Value).toArray 24 (0,0))] w:=hw;rw[h] at hw2;exact QbF (by unfold XG;rw[XO];exact HLEN.out) hw2
end
def col(c:Nat)(S:List (Nat→Bool)):List Bool:=S.map fun s=>s c
theorem Q2S(c:Nat)(S:List (Nat→Bool))(k:Nat):(col c S).getD k false=(S.getD k Z2) c:=by
 unfold col
 rw[List.getD_eq_getElem?_getD,List.getElem?_map,List.getD_eq_getElem?_getD]
 cases S[k]?<;>rfl
def Q71(b:List Bool)(k i:Nat):List Bool:=b.set k (b.getD k false||b.getD i false)
theorem Qdl(c:Nat)(S:List (Nat→Bool))(k i:Nat):col c (Vz S k i)=Q71 (col c S) k i:=by
 unfold Vz Q71
 rw[Q2S,Q2S]
 unfold col
 rw[List.map_set]
 rfl
def Qcq(F:List Rl)(b:List Bool)(k:Nat):List Bool:=(bg F k).foldl (fun b i=>Q71 b k i) b
def Yr(F:List Rl)(b:List Bool):List Bool:=(List.range F.length).foldl (Qcq F) b
theorem Q3M{α:Type}(c:Nat){f:List (Nat→Bool)→α→List (Nat→Bool)}{g:List Bool→α→List Bool}(h:∀S x,col c (f S x)=g (col c S) x):∀(l:List α) (S:List (Nat→Bool)),col c (l.foldl f S)=l.foldl g (col c S)
 |[],S=>rfl
 |x::l,S=>by rw[List.foldl_cons,List.foldl_cons,Q3M c h l,h]
theorem Qcv(F:List Rl)(c:Nat)(S:List (Nat→Bool))(k:Nat):col c (JU F S k)=Qcq F (col c S) k:=Q3M c (fun S i=>Qdl c S k i) _ S
theorem Qa0(F:List Rl)(c:Nat)(S:List (Nat→Bool)):col c (ZQ F S)=Yr F (col c S):=Q3M c (Qcv F c) _ S
theorem Q7B(F:List Rl)(c:Nat)(S:List (Nat→Bool)):∀t,col c (iter (ZQ F) t S)=iter (Yr F) t (col c S)
 |0=>rfl
 |t+1=>by
  show col c (ZQ F _)=Yr F _
  rw[Qa0,Q7B F c S t]
theorem Q9i(b:List Bool)(k i:Nat):LeB b (Q71 b k i):=LeB.set b k _ fun h=>by rw[h];rfl
theorem Q6V(F:List Rl)(b:List Bool)(k:Nat):LeB b (Qcq F b k):=Vv (fun b i=>Q9i b k i) _ _
theorem Q4z(F:List Rl)(b:List Bool):LeB b (Yr F b):=Vv (Q6V F) _ _
theorem Q0n{α β:Type}{f:α→β→α}{p:α→Prop}:∀(l:List β),(∀a,∀b∈l,p a→p (f a b))→∀a,p a→p (l.foldl f a)
 |[],_,a,ha=>ha
 |b::l,h,a,ha=>Q0n l (fun a x hx=>h a x (List.mem_cons_of_mem _ hx)) (f a b) (h a b List.mem_cons_self ha)
def KB(F:List Rl)(k c:Nat):Bool:=match F[k]? with|some r=>Yq r c|none=>false
theorem QcC(F:List Rl)(c k:Nat):(col c (F.map Yq)).getD k false=KB F k c:=by
 rw[Q2S,List.getD_eq_getElem?_getD,List.getElem?_map]
 unfold KB
 cases F[k]?<;>rfl
theorem Q7p{F:List Rl}(hb:Bd F){k:Nat}(hk:k<F.length)(c:Nat):(JS F).getD k Z2 c=true↔∃j,(j=k∨Rch F k j)∧KB F j c=true:=by
 rw[← Q2S]
 unfold JS
 rw[Q7B];obtain⟨B,hB⟩:∃B,B=col c (F.map Yq):=⟨_,rfl⟩
 have hBl:B.length=F.length:=by rw[hB];unfold col;rw[List.length_map,List.length_map]
 have hown:∀j:Nat,B.getD j false=KB F j c:=fun j=>by rw[hB];exact QcC F c j
 rw[← hB]
 constructor
 ·intro h;refine Q1c (f:=Yr F) (p:=fun b:List Bool=>∀k:Nat,b.getD k false=true→∃j,(j=k∨Rch F k j)∧KB F j c=true) (fun b hb'=>Q00 (p:=fun b:List Bool=>∀k:Nat,b.getD k false=true→∃j,(j=k∨Rch F k j)∧KB F j c=true) (fun b k hb'=>?_) _ _ hb') (a:=B) (fun k hk=>⟨k,.inl rfl,by rw[← hown];exact hk⟩) F.length k h;refine Q0n (p:=fun b:List Bool=>∀k:Nat,b.getD k false=true→∃j,(j=k∨Rch F k j)∧KB F j c=true) (bg F k) (fun b i hi hb' k' hk'=>?_) b hb'
  unfold Q71 at hk'
  by_cases hkl:k<b.length
  ·rw[Z1 _ _ _ _ hkl] at hk'
   split at hk'
   ·next e=>
    subst e;rw[Bool.or_eq_true] at hk'
    rcases hk' with h1|h1
    ·exact hb' _ h1
    ·obtain⟨j,hj,ho⟩:=hb' _ h1;refine⟨j,.inr ?_,ho⟩
     rcases hj with rfl|hj
     ·exact .one hi
     ·exact Rch.trans (.one hi) hj
   ·exact hb' _ hk'
  ·rw[List.set_eq_of_length_le (by omega)] at hk';exact hb' _ hk'
 ·have hrest:Yr F (iter (Yr F) F.length B)=iter (Yr F) F.length B:=by
   have:=KZ (Q4z F) B;rwa [hBl] at this
  obtain⟨R,hR⟩:∃R,R=iter (Yr F) F.length B:=⟨_,rfl⟩
  have hle:LeB B R:=by rw[hR];exact Q0d (Q4z F) B _
  rw[← hR] at hrest ⊢
  have hclosed:∀k i:Nat,k<F.length→i∈bg F k→R.getD i false=true→R.getD k false=true:=by
   intro k i hk hi h;obtain⟨a',h1,h2⟩:=VR (Q6V F) (List.range F.length) R k (List.mem_range.2 hk);obtain⟨a'',h3,h4⟩:=VR (f:=fun b i=>Q71 b k i) (fun b i=>Q9i b k i) (bg F k) a' i hi
   have h5:(Q71 a'' k i).getD k false=true:=by
    unfold Q71
    rw[Z1 _ _ _ _ (by rw[← h3.1,← h1.1,← hle.1,hBl];exact hk),if_pos rfl,h3.2 i (h1.2 i h),Bool.or_true]
   have h6:=h2.2 k (h4.2 k h5);have h7:(Yr F R).getD k false=true:=h6;rwa [hrest] at h7
  rintro⟨j,hj,ho⟩
  have hjR:R.getD j false=true:=hle.2 j (by rw[hown];exact ho)
  rcases hj with rfl|hj
  ·exact hjR
  ·have hall:∀j,Rch F k j→R.getD j false=true→R.getD k false=true:=by
    intro j hj
    induction hj with
    |one h=>exact hclosed _ _ hk h
    |more h hm ih=>exact fun hx=>ih (hclosed _ _ (h.lt hb) hm hx)
   exact hall j hj hjR
def VJ(r:Rl)(b:Int):Bool:=
 if r.kind=1 then ((r.bs.headD 0).toNat:Int)==b
 else if r.kind=2∧r.big=true then decide (r.mn / 256 ^ (r.size - 1).toNat≤b)&&decide (b≤r.mx / 256 ^ (r.size - 1).toNat)
 else if r.kind=2 then decide ((if r.mn - r.mn % 256+b<r.mn then r.mn - r.mn % 256+b+256 else r.mn - r.mn % 256+b)≤r.mx)
 else if r.kind=3 then inB b 48 57&&decide (b - 48≤r.mx)
 else if r.kind=5 then decide (0<r.size)||b==r.stop
 else if r.kind=9 then b==r.stop
 else r.kind==4
theorem KO(lo hi:Int)(j:Nat):J4 noS lo hi j=decide (lo+((j:Int) - lo) % 256≤hi):=by
 unfold J4 noS
 rw[Bool.false_or]
theorem Q5C{n:Nat}{r:Rl}(h:ROk n r){b:Nat}(hb:b<256):Yq r b=VJ r (b:Int):=by
 obtain⟨name,kind,bs,size,big,mn,mx,stop,count,elem,names,parts⟩:=r;have hk:=h.kind;have h2:=h.num;have h3:=h.dec;have h5:=h.size5;have hs:=h.stop
 unfold Yq Q0A VJ
 simp only at hk h2 h3 h5 hs ⊢
 clear h
 rcases (show kind=1∨kind=2∨kind=3∨kind=4∨kind=5∨kind=6∨kind=7∨kind=8∨kind=9∨kind=10 by omega) with rfl|rfl|rfl|rfl|rfl|rfl|rfl|rfl|rfl|rfl
 ·show (b==(bs.headD 0).toNat)=(((bs.headD 0).toNat:Int)==(b:Int))
  rw[Bool.eq_iff_iff,beq_iff_eq,beq_iff_eq]
  omega
 ·obtain⟨a1,a2,a3,a4,a5⟩:=h2 rfl
  cases big with
  |true=>
   show J4 noS (mn / 2 ^ (8*(size - 1)).toNat) (mx / 2 ^ (8*(size - 1)).toNat) b=(decide (mn / 256 ^ (size - 1).toNat≤(b:Int))&&decide ((b:Int)≤mx / 256 ^ (size - 1).toNat))
   rw[KO]
   rcases (show size=1∨size=2∨size=3∨size=4 by omega) with rfl|rfl|rfl|rfl<;>
   ·simp at a5 ⊢
    rw[Bool.eq_iff_iff]
    simp only[Bool.and_eq_true,decide_eq_true_eq]
    omega
  |false=>
   show J4 noS mn (min mx (mn+256 - 1)) b=decide ((if mn - mn % 256+(b:Int)<mn then mn - mn % 256+b+256 else mn - mn % 256+b)≤mx)
   rw[KO];rw[Bool.eq_iff_iff,decide_eq_true_eq,decide_eq_true_eq];clear a5 h2 h3 h5 hs
   split<;>omega
 ·obtain⟨a1,a2,a3⟩:=h3 rfl
  show J4 noS 48 (48+min mx 9) b=(inB (b:Int) 48 57&&decide ((b:Int) - 48≤mx))
  rw[KO]
  unfold inB
  rw[Bool.eq_iff_iff]
  simp only[Bool.and_eq_true,decide_eq_true_eq]
  omega
 ·show J4 noS 0 255 b=true
  rw[KO,decide_eq_true_eq]
  omega
 ·show (if 0<size then J4 noS 0 255 else fun j=>decide ((j:Int)=stop)) b=(decide (0<size)||((b:Int)==stop))
  split
  ·next h0=>
   rw[KO,Bool.eq_iff_iff]
   simp only[Bool.or_eq_true,decide_eq_true_eq,beq_iff_eq]
   omega
  ·next h0=>
   rw[Bool.eq_iff_iff]
   simp only[Bool.or_eq_true,decide_eq_true_eq,beq_iff_eq]
   omega
 ·rfl
 ·rfl
 ·rfl
 ·show decide ((b:Int)=stop)=((b:Int)==stop)
  rw[Bool.eq_iff_iff,decide_eq_true_eq,beq_iff_eq]
 ·rfl
def Qbm(F:List Rl)(k b:Nat):Bool:=(List.range F.length).any fun i=>((Zb F k).set k true).getD i false&&(match F[i]? with|some r=>VJ r (b:Int)|none=>false)
theorem Q9N{F:List Rl}(hF:FOk F){k b:Nat}(hk:k<F.length)(hb:b<256):Qbm F k b=(JS F).getD k Z2 b:=by
 rw[Bool.eq_iff_iff,Q7p hF.bd hk]
 unfold Qbm
 rw[List.any_eq_true]
 have hset:∀i:Nat,((Zb F k).set k true).getD i false=true↔(i=k∨Rch F k i):=fun i=>by
  rw[Z1 _ _ _ _ (by rw[VW];exact hk)]
  split
  ·next e=>exact⟨fun _=>.inl e,fun _=>rfl⟩
  ·next e=>rw[Ke hF.bd hk];exact⟨.inr,fun h=>h.resolve_left e⟩
 constructor
 ·rintro⟨i,hi,h⟩
  rw[Bool.and_eq_true,hset] at h;refine⟨i,h.1,?_⟩
  unfold KB
  have h2:=h.2
  cases hr:F[i]? with
  |none=>rw[hr] at h2;cases h2
  |some r=>rw[hr] at h2;rw[← h2];exact Q5C (hF i r hr) hb
 ·rintro⟨j,hj,ho⟩
  have hjn:j<F.length:=by
   rcases hj with rfl|hj
   ·exact hk
   ·exact hj.lt hF.bd
  refine⟨j,List.mem_range.2 hjn,?_⟩;rw[Bool.and_eq_true,hset];refine⟨hj,?_⟩
  unfold KB at ho
  cases hr:F[j]? with
  |none=>rw[hr] at ho;cases ho
  |some r=>rw[hr] at ho;rw[← ho];exact(Q5C (hF j r hr) hb).symm
end Go.Proofs.YtgdiadednlajgaaGreatDoor
