/- Parts of the proof of ScaleNumbers (CheckBench, Exponent and Largest answer as the reference does), at every input, with no further conditions. -/
import Derived.Test.YtdgocdadfmhjgaaGreatDoorZAB
set_option linter.unusedVariables false
set_option linter.unusedSimpArgs false
namespace Go.Ai
open Go.RowKit
section
variable{P:Program}{N:Nat}{w0 w:World}{V:Hid}{S S0:Nat->Prop}{B:Nat->Prop}{σ σ':St}{a:Act}{F:Nat->List Nat}
theorem FX{b:Nat}{cs:Array Value}{fz:Nat×Nat}(h:row? w b=some (cs,fz)):∃e,w.heap[b]?=some (.cells cs e fz):=by
 unfold row? at h;split at h
 ·rename_i c e f hc;simp only[Option.some.injEq,Prod.mk.injEq]at h;obtain⟨rfl,rfl⟩:=h;exact⟨e,hc⟩
 simp at h
theorem ET{b:Nat}{cs:Array Value}{e:TypeId}{fz:Nat×Nat}(h:w.heap[b]?=some (.cells cs e fz)):row? w b=some (cs,fz):=by unfold row?;rw[h]
theorem Rel.H6{f:Fl}{sz:Nat}{xs:List AV}{z:Value}{F1:List Nat}(h:Rel w S (.list f sz xs) z F1):
 ∃l F',bU w S sz xs l F'/\(∀b∈F',b∈F1)/\(F1.Nodup->F'.Nodup)/\((z=.slice none 0 0/\xs=[]/\l=[])\/
  ∃ad cap,z=.slice (some ad) xs.length cap/\ad.spot=none/\∀j u,l[j]?=some u->w.cell? (ad.add j)=some u):=by
 cases f with
 |nil=>simp only[Rel]at h;obtain⟨rfl,rfl,rfl⟩:=h;exact⟨[],[],by simp[bU],by simp,by simp,.inl ⟨rfl,rfl,rfl⟩⟩
 |shr=>
  simp only[Rel]at h;rcases h with⟨rfl,rfl,rfl⟩|⟨b,off,cap,cs,fz,rfl,hS,hr,hc,hE,rfl⟩
  ·exact⟨[],[],by simp[bU],by simp,by simp,.inl ⟨rfl,rfl,rfl⟩⟩
  refine⟨_,[],hE,by simp,by simp,.inr ⟨_,cap,rfl,rfl,fun j u hu=>?_⟩⟩;rw[bF rfl,p7 rfl hr];rw[List.getElem?_take]at hu;split at hu
  ·simpa using hu
  simp at hu
 |own=>
  simp only[Rel]at h;rcases h with⟨rfl,rfl,rfl⟩|⟨b,cap,cs,F',rfl,hr,hc,hm,hs,hE,rfl⟩
  ·exact⟨[],[],by simp[bU],by simp,by simp,.inl ⟨rfl,rfl,rfl⟩⟩
  refine⟨_,F',hE,fun b hb=>by simp[hb],fun hn=>(List.nodup_cons.1 hn).2,.inr ⟨_,cap,rfl,rfl,fun j u hu=>?_⟩⟩;rw[bF rfl,p7 rfl hr];rw[List.getElem?_take]at hu;split at hu
  ·simpa using hu
  simp at hu
theorem bU.one(sz:Nat){ti:TI}(ct:sz=ti.size):∀{xs:List AV}{l:List Value}{F1:List Nat},bU w S sz xs l F1->xs.all (fits ti)=true->∀u∈l,u.oneCell'=true
 |[],l,F1,h,_=>by simp only[bU]at h;simp[h.1]
 |x::xs,l,F1,h,hf=>by
  simp only[List.all_cons,Bool.and_eq_true]at hf;simp only[bU]at h;obtain⟨y,l',G1,G2,rfl,rfl,h2,h3,h4⟩:=h;intro u hu;rcases List.mem_append.1 hu with hu|hu
  ·unfold fits at hf;split at hf
   ·simp only[Rel]at h3;obtain⟨cs,rfl,hc⟩:=h3;rw[aZ]at hu;obtain⟨j,hj,rfl⟩:=List.getElem_of_mem hu;have cB:j<(‹List AV›).length:=by have:=Cells.length hc;omega
    obtain⟨y0,A,Fx,B',-,h1,-,hl,-⟩:=Cells.lens j hc (List.getElem?_eq_getElem cB);rw[List.getElem?_eq_getElem hj]at hl;simp only[Option.some.injEq]at hl;rw[hl];exact h1 rfl
   simp only[Bool.and_eq_true]at hf;have:=h3.one hf.1.2;rw[bS this]at hu;simp at hu;rw[hu];exact this
  exact bU.one sz ct h4 hf.2 u hu
theorem bU.az(sz:Nat):∀{xs:List AV}{l:List Value}{F1:List Nat},bU w S sz xs l F1->bG xs=true->F1=[]
 |[],l,F1,h,_=>by simp only[bU]at h;exact h.2
 |x::xs,l,F1,h,hf=>by simp only[bG,Bool.and_eq_true]at hf;simp only[bU]at h;obtain⟨y,l',G1,G2,rfl,rfl,h2,h3,h4⟩:=h;rw[Rel.az x h3 hf.1,bU.az sz h4 hf.2];rfl
theorem uC(t ty e e':TypeId)(i:TypeInfo)(ht:P.underlying t=some (.slice e))(hi:P.info? e=some i)
 (g HK UQ:Nat)(cur:Array Value)(hg:w.heap[g]?=some (.cells cur e' (0,0)))
 (ad:Addr)(m c:Nat)(news:List Value)(hl:news.length=m*i.size)(YG:∀j u,news[j]?=some u->w.cell? (ad.add j)=some u)(h1:∀u∈news,u.oneCell'=true)
 (yY:HK+m<=UQ)(lV:HK*i.size+news.length<=cur.size):
 (Builtin.append_ #[t,t] ty #[.slice (some ⟨g,0,none⟩) HK UQ,.slice (some ad) m c]).run P w=
   .ok (.slice (some ⟨g,0,none⟩) (HK+m) UQ) (w.setRow g (cur.toList.take (HK*i.size)++news++cur.toList.drop (HK*i.size+news.length)).toArray):=by
 have hf:=run_firstCells_some (P:=P) w i.size m ad m c news hl YG;have ny:=run_storeCells_at P g (HK*i.size) e' news 0 cur w hg (by simpa using lV) h1;simp only[Nat.add_zero]at ny;simp[Builtin.append_,run_underlying ht,sizeOf,typeInfo,hi,Builtin.lenOf,yY,hf,Addr.add_lit,ny]
theorem wZ(z:Array Value)(n:Nat):(Builtin.zeroCells z n).size=n*z.size:=by simp[Builtin.zeroCells]
theorem nI(w:World)(o:Obj):Below w.heap.size w (w.drew.alloc o):=((Below.refl _ _).drew).alloc (by simp) o
theorem mj{l m z:List Value}{n:Nat}(h:l.length+m.length=n):(l++m++z).take n=l++m:=by rw[<-h,<-List.length_append];exact List.take_left
theorem sj{t ty e:TypeId}{ti:TI}{zx zy:Value}{fx:Fl}{Qt KW:Nat}{xs ys:List AV}{Fx Fy:List Nat}(he:cG P t=some e)(ga:bE P e=some ti)(pJ:ti.size≠0)
 (hx:Rel w S (.list fx Qt xs) zx Fx){ly:List Value}(Xy:bU w S KW ys ly Fy)(hzy:(zy=.slice none 0 0/\ys=[]/\ly=[])\/
   ∃ad cap,zy=.slice (some ad) ys.length cap/\ad.spot=none/\∀j u,ly[j]?=some u->w.cell? (ad.add j)=some u)(hfx:fx=.nil\/(fx=.own/\Qt=ti.size))(hfy:ys=[]\/KW=ti.size)(iC:ys.all (fits ti)=true)
 (hN:(Fx++Fy).Nodup)(hS:∀b,S b->b<w.heap.size)(Zs:∀b∈Fx,b<w.heap.size/\¬S b)(hFy:∀b∈Fy,b<w.heap.size)
 (tg:(xs.length+ys.length)*ti.bytes<=140737488355328)(Ds:xs.length+ys.length<=maxLen):
 ∃v w' Fv,(Builtin.append_ #[t,t] ty #[zx,zy]).run P w=.ok v w'/\Rel w' S (if fx=.nil/\ys=[]then .list .nil 0 []else .list .own ti.size (xs++ys)) v Fv/\Fv.Nodup/\
  (∀b∈Fv,b∈Fx\/b∈Fy\/w.heap.size<=b/\b<w'.heap.size)/\w.heap.size<=w'.heap.size/\(∀b,b<w.heap.size->b∉Fx->w'.heap[b]?=w.heap[b]?)/\
  w'.os=w.os/\w'.tape=w.tape/\w'.output=w.output:=by
 obtain⟨i,u,z,hi,hu,hz,gb,mM,hzero,Mf,hzc,hzf⟩:=iw ga;have ht:=gB he;have F7:∀b∈Fy,b∈Fy:=fun _ h=>h;have Zq:Fy.Nodup->Fy.Nodup:=id;have Sm:=List.nodup_append.1 hN;have ab2:xs.length+ys.length<=9223372036854775807:=by simp only[maxLen]at Ds;omega
 by_cases Yj:ys=[]
 ·subst Yj;simp only[bU]at Xy;obtain⟨rfl,rfl⟩:=Xy;have bp:∀ad n c,n<=c->(Builtin.append_ #[t,t] ty #[.slice ad n c,zy]).run P w=.ok (.slice ad n c) w:=by
   intro ad n c hn;have QA:∃MM c',zy=.slice MM 0 c':=by
    rcases hzy with⟨h,-⟩|⟨MM,c',h,-⟩
    ·exact⟨none,0,h⟩
    exact⟨some MM,c',h⟩
   obtain⟨MM,c',rfl⟩:=QA;cases ad<;>cases MM<;>simp[Builtin.append_,run_underlying ht,sizeOf,typeInfo,hi,Builtin.lenOf,hn,Builtin.firstCells,loadCells,loadCellsFrom,storeCells]
  obtain⟨ad,cap,rfl,iB,uX,-⟩:=hx.iz;refine⟨_,w,Fx,bp ad _ _ iB,?_,Sm.1,fun b hb=>.inl hb,Nat.le_refl _,fun _ _ _=>rfl,rfl,rfl,rfl⟩;rcases hfx with rfl|⟨rfl,rfl⟩
  ·obtain⟨rfl,rfl,rfl⟩:=uX rfl;simp only[Rel]at hx;simp[Rel,hx.2.2]
  simpa using hx
 have AR:KW=ti.size:=hfy.resolve_left Yj;have VT:=bU.length KW Xy;have qN:=bU.one KW AR Xy iC;have TL:0<ys.length:=List.length_pos_iff.2 Yj;obtain⟨ad,WI,rfl,adR,je⟩:∃ad cap,zy=.slice (some ad) ys.length cap/\ad.spot=none/\∀j u,ly[j]?=some u->w.cell? (ad.add j)=some u:=by
  rcases hzy with⟨-,h,-⟩|h
  ·exact absurd h Yj
  exact h
 have tf:∀(U2:Nat)(lx:List Value)(Ec:List Nat),bU w S ti.size xs lx Ec->(∀b∈Ec,b∈Fx)->Ec.Nodup->U2<xs.length+ys.length->
  ∃Fv,Rel (w.drew.alloc (.cells (lx.toArray++ly.toArray++Builtin.zeroCells z.cells (grownCap w (xs.length+ys.length) U2 e-(xs.length+ys.length))) e)) S (.list .own ti.size (xs++ys))
   (.slice (some ⟨w.heap.size,0,none⟩) (xs.length+ys.length) (grownCap w (xs.length+ys.length) U2 e)) Fv/\Fv.Nodup/\
   (∀b∈Fv,b∈Fx\/b∈Fy\/w.heap.size<=b/\b<w.heap.size+1):=by
  intro U2 lx Ec hEx AS AG hold;have hlx:=bU.length ti.size hEx;have QF:=grownCap_ge w (xs.length+ys.length) U2 e;have hle:=grownCap_le_maxLen w (xs.length+ys.length) U2 e Ds;generalize grownCap w (xs.length+ys.length) U2 e=cap at*;refine⟨w.heap.size::(Ec++Fy),?_,?_,fun b hb=>?_⟩
  ·simp only[Rel];refine .inr ⟨w.heap.size,cap,_,Ec++Fy,by simp,mJ w.drew _ e,by simp;omega,hle,?_,?_,rfl⟩
   ·simp only[Array.size_append,List.size_toArray,wZ,hlx,VT,AR,hzc,<-Nat.add_mul]
    congr 1;omega
   have hE:=bU.append ti.size hEx (AR▸Xy);have hE':=bU.frame ti.size _ (w':=w.drew.alloc (.cells (lx.toArray++ly.toArray++Builtin.zeroCells z.cells (cap-(xs.length+ys.length))) e)) hE (fun b hb=>?_)
   ·have:(lx.toArray++ly.toArray++Builtin.zeroCells z.cells (cap-(xs.length+ys.length))).toList.take ((xs++ys).length*ti.size)=lx++ly:=by
     simp only[Array.toList_append];refine mj ?_;rw[hlx,VT,List.length_append,Nat.add_mul,AR]
    rw[this];exact hE'
   have cB:b<w.heap.size:=by
    rcases hb with hb|hb
    ·exact hS b hb
    rcases List.mem_append.1 hb with hb|hb
    ·exact(Zs b (AS b hb)).1
    exact hFy b (F7 b hb)
   exact mI w.drew _ cB
  ·rw[List.nodup_cons];refine⟨fun hb=>?_,?_⟩
   ·rcases List.mem_append.1 hb with hb|hb
    ·have:=(Zs _ (AS _ hb)).1;omega
    have:=hFy _ (F7 _ hb);omega
   rw[List.nodup_append];exact⟨AG,Zq Sm.2.1,fun b hb c hc=>Sm.2.2 b (AS b hb) c (F7 c hc)⟩
  rcases List.mem_cons.1 hb with rfl|hb
  ·exact .inr (.inr (by omega))
  rcases List.mem_append.1 hb with hb|hb
  ·exact .inl (AS b hb)
  exact .inr (.inl (F7 b hb))
 have Ij:ti.size=i.size:=gb;have gg:(if fx=.nil/\ys=[]then AV.list .nil 0 []else .list .own ti.size (xs++ys))=.list .own ti.size (xs++ys):=by simp[Yj]
 rw[gg];by_cases hq:xs=[]/\zx=.slice none 0 0/\Fx=[]
 ·obtain⟨rfl,rfl,rfl⟩:=hq;clear hfx;simp only[List.length_nil,Nat.zero_add]at*;have hr:=run_append_nil (P:=P) w t ty e i z ht hi hz ad ys.length WI ly (by rw[VT,AR,gb]) je TL (by omega) (by rw[<-mM];omega);obtain⟨Fv,g1,g2,g3⟩:=tf 0 [] [] (by simp[bU]) (by simp) List.nodup_nil TL;simp only[List.nil_append,Array.empty_append]at g1 hr⊢;have hb:=nI w (.cells (ly.toArray++Builtin.zeroCells z.cells (grownCap w ys.length 0 e-ys.length)) e);exact⟨_,_,Fv,hr,g1,g2,fun b hb=>(g3 b hb).imp id (Or.imp id fun h=>⟨h.1,by rw[World.size_alloc];exact h.2⟩),hb.size,fun b dr _=>hb.block b dr,hb.os,hb.tape,hb.output⟩
 rcases hfx with rfl|⟨rfl,rfl⟩
 ·simp only[Rel]at hx;exact absurd hx hq
 simp only[Rel]at hx;rcases hx with hx|⟨b,cap,cs,F',rfl,c5,iB,Iq,pL,hE,rfl⟩
 ·exact absurd hx hq
 obtain⟨e',TW⟩:=FX c5;have hlx:=bU.length ti.size hE;by_cases yY:xs.length+ys.length<=cap
 ·have lV:xs.length*i.size+ly.length<=cs.size:=by rw[VT,pL,AR,<-gb,<-Nat.add_mul];exact Nat.mul_le_mul_right _ yY
  have hr:=uC (P:=P) (ty:=ty) t e e' i ht hi b xs.length cap cs TW ad ys.length WI ly (by rw[VT,AR,gb]) je qN yY lV;have Io:b∉F'/\b∉Fy:=by have:=Sm.1;exact⟨(List.nodup_cons.1 this).1,fun hb=>Sm.2.2 b (by simp) b hb rfl⟩
  refine⟨_,_,b::(F'++Fy),hr,?_,?_,fun c hc=>?_,by simp,fun c _ hc=>setRow_other w b c _ (fun e=>hc (by simp[e])),rfl,rfl,rfl⟩
  ·simp only[Rel];have OY:=setRow_heap w b cs (cs.toList.take (xs.length*i.size)++ly++cs.toList.drop (xs.length*i.size+ly.length)).toArray e' _ TW;refine .inr ⟨b,cap,_,F'++Fy,by simp,ET OY,by simp;exact yY,Iq,?_,?_,rfl⟩
   ·simp only[List.size_toArray,List.length_append,List.length_take,List.length_drop,Array.length_toList];rw[<-pL];omega
   have hEE:=bU.append ti.size hE (AR▸Xy);have hE':=bU.frame ti.size _ (w':=w.setRow b (cs.toList.take (xs.length*i.size)++ly++cs.toList.drop (xs.length*i.size+ly.length)).toArray) hEE (fun c hc=>?_)
   ·have:(cs.toList.take (xs.length*i.size)++ly++cs.toList.drop (xs.length*i.size+ly.length)).toArray.toList.take ((xs++ys).length*ti.size)=cs.toList.take (xs.length*ti.size)++ly:=by
     rw[Ij];simp only;refine mj ?_;rw[VT,List.length_append,Nat.add_mul,AR,Ij];simp only[List.length_take,Array.length_toList];rw[Nat.min_eq_left];rw[<-Ij,pL];exact Nat.mul_le_mul_right _ iB
    rw[this];exact hE'
   have cR:c≠b:=by
    rcases hc with hc|hc
    ·exact fun e=>(Zs b (by simp)).2 (e▸hc)
    rcases List.mem_append.1 hc with hc|hc
    ·exact fun e=>Io.1 (e▸hc)
    exact fun e=>Io.2 (F7 b (e▸hc))
   rw[setRow_other w b c _ cR]
  ·rw[List.nodup_cons,List.nodup_append];refine⟨fun hb=>?_,(List.nodup_cons.1 Sm.1).2,Zq Sm.2.1,fun c hc c' bT=>Sm.2.2 c (by simp[hc]) c' (F7 c' bT)⟩;rcases List.mem_append.1 hb with hb|hb
   ·exact Io.1 hb
   exact Io.2 (F7 b hb)
  rcases List.mem_cons.1 hc with rfl|hc
  ·exact .inl (by simp)
  rcases List.mem_append.1 hc with hc|hc
  ·exact .inl (by simp[hc])
  exact .inr (.inl (F7 c hc))
 have holds:∀j u,(cs.toList.take (xs.length*ti.size))[j]?=some u->w.cell? ((⟨b,0,none⟩:Addr).add j)=some u:=by
  intro j u hu;rw[bF rfl,p7 rfl c5];rw[List.getElem?_take]at hu;split at hu
  ·simpa using hu
  simp at hu
 have hr:=run_append_grow (P:=P) w t ty e i z ht hi hz ⟨b,0,none⟩ xs.length cap _ (by rw[hlx,gb]) holds ad ys.length WI ly (by rw[VT,AR,gb]) je (by omega) (by omega)
  (growslice_fits (by omega) (by rw[<-mM];exact tg))
 obtain⟨Fv,g1,g2,g3⟩:=tf cap _ F' hE (fun c hc=>by simp[hc]) (List.nodup_cons.1 Sm.1).2 (by omega);have hb:=nI w (.cells ((cs.toList.take (xs.length*ti.size)).toArray++ly.toArray++Builtin.zeroCells z.cells (grownCap w (xs.length+ys.length) cap e-(xs.length+ys.length))) e);exact⟨_,_,Fv,hr,g1,g2,fun b hb=>(g3 b hb).imp id (Or.imp id fun h=>⟨h.1,by rw[World.size_alloc];exact h.2⟩),hb.size,fun b dr _=>hb.block b dr,hb.os,hb.tape,hb.output⟩
end
section
variable{P:Program}{N:Nat}{w0 w:World}{V:Hid}{S S0:Nat->Prop}{B:Nat->Prop}{σ σ':St}{a:Act}{F:Nat->List Nat}
theorem sN{sz:Nat}{xs:List AV}{v:Value}{F1:List Nat}(h:Rel w S (.list .nil sz xs) v F1):xs=[]/\v=.slice none 0 0/\F1=[]:=by simpa[Rel]using h
theorem D5{t t' ty e e2:TypeId}{x y:Value}(ht:P.underlying t=some (.slice e))(JT:P.underlying t'=some (.slice e2)):(Builtin.append_ #[t,t'] ty #[x,y]).run P w=(Builtin.append_ #[t,t] ty #[x,y]).run P w:=by cases x<;>simp[Builtin.append_,run_underlying ht,run_underlying JT]
theorem D6{d t ty:Nat}(h:Inv N V w0 S0 σ a w)(hd:d<N)(x y:Operand)(oL:aE x=true)(Xa:aE y=true){ms:List Mv}
 (hm:jh P d t (resolve σ x) (resolve σ y)=some ms)(hr:Mv.runs σ ms=some σ'):Good N V w0 S0 σ' a d ((Builtin.append_ #[t,t] ty #[a.eval x,a.eval y]).run P w):=by
 unfold jh at hm;split at hm
 ·rename_i e he;split at hm
  ·rename_i ti ga;split at hm
   ·simp at hm
   rename_i pJ;split at hm
   ·rename_i fy KW ys hy;obtain⟨My,J7,hm⟩:∃My,(My=[]/\bG ys=true\/∃s,My=[s]/\y=.tmp s/\(σ s).av.plain=true)/\(if(ys.isEmpty||(KW==ti.size&&ys.all (fits ti)))&& !My.contains d then
     match(resolve σ x).cont with
     |some (.list .nil _ _)=>if(ys.length*ti.bytes)<=140737488355328/\ys.length<=maxLen then
       some [Mv.make My d (if ys.isEmpty then .list .nil 0 []else .list .own ti.size ys)]else none
     |some (.list .own Qt xs)=>if Qt=ti.size/\(xs.length+ys.length)*ti.bytes<=140737488355328/\xs.length+ys.length<=maxLen then
       match(resolve σ x).sl.av with
       |.bg r _ _ p=>if r∈My then none else some [.take r d p,.make (d::My) d (.list .own ti.size (xs++ys))]
       |_=>match(resolve σ x).s with
        |some s=>if s∈My then none else some [.make (s::My) d (.list .own ti.size (xs++ys))]
        |none=>none
      else none
     |_=>none
     else none)=some ms:=by
     dsimp only at hm;split at hm
     ·simp at hm
     rename_i My J7;refine⟨My,?_,hm⟩;split at J7
     ·rename_i fS;simp only[Option.some.injEq]at J7;exact .inl ⟨J7.symm,fS⟩
     split at J7
     ·rename_i h1 h2;split at J7
      ·rename_i s hs;simp only[Option.some.injEq]at J7;cases y with
       |tmp t'=>
        have yV:(resolve σ (.tmp t')).s=some t'/\(resolve σ (.tmp t')).sl=σ t':=by revert hs;simp only[resolve,bo.of];split<;>first|(intro _;exact⟨rfl,rfl⟩)|(intro h;simp at h)
        rw[yV.1]at hs;simp only[Option.some.injEq]at hs;subst hs;rw[yV.2]at h2;exact .inr ⟨t',J7.symm,rfl,by rw[h2];rfl⟩
       |const v=>simp[resolve]at hs
       |func f=>simp[resolve]at hs
       |global g=>simp[resolve]at hs
      simp at J7
     simp at J7
    have OJ:∀S F,aK S (bW V w0) σ (tv V a) w F->∃ly Gy,bU w S KW ys ly Gy/\((a.eval y=.slice none 0 0/\ys=[]/\ly=[])\/
     ∃ad cap,a.eval y=.slice (some ad) ys.length cap/\ad.spot=none/\∀j u,ly[j]?=some u->w.cell? (ad.add j)=some u)/\(∀b∈Gy,∃m∈My,b∈F m)/\Gy.Nodup:=by
     intro S F hc;obtain⟨Fy,e1,e2,e3,-⟩:=aM hc y Xa hy;obtain⟨ly,Gy,q1,q2,q3,q4⟩:=e1.H6;rcases J7 with⟨rfl,fS⟩|⟨s,rfl,rfl,gJ⟩
     ·exact⟨ly,Gy,q1,q4,by rw[bU.az KW q1 fS];simp,by rw[bU.az KW q1 fS];exact List.nodup_nil⟩
     obtain⟨rfl,-⟩:=e3 s rfl gJ;exact⟨ly,Gy,q1,q4,fun b hb=>⟨s,by simp,q2 b hb⟩,q3 (hc.nodup s)⟩
    split at hm
    ·rename_i gr;simp only[Bool.and_eq_true,Bool.not_eq_true',Bool.or_eq_true,beq_iff_eq,List.isEmpty_iff]at gr;obtain⟨hfy,hdM⟩:=gr;have acr:d∉My:=by simpa using hdM
     have V3:ys=[]\/KW=ti.size:=hfy.imp id (·.1);have iC:ys.all (fits ti)=true:=by
      rcases hfy with rfl|h
      ·rfl
      exact h.2
     split at hm
     ·rename_i Qt xs hx;split at hm
      ·rename_i hb;simp only[Option.some.injEq]at hm;subst hm;simp only[iJ,Option.some.injEq]at hr;subst hr;obtain⟨S,F,hc,hN,ig,jl,gw,cU⟩:=h;obtain⟨Fx,ex,-⟩:=aM hc x oL hx;obtain⟨rfl,-,rfl⟩:=sN ex;obtain⟨ly,Gy,q1,q2,q3,q4⟩:=OJ S F hc;obtain⟨v,w',Fv,r1,r2,r3,r4,r5,r6,r7,r8,r9⟩:=sj (P:=P) (ty:=ty) he ga pJ ex q1 q2 (.inl rfl) V3 iC (by simpa using q4) hc.shr (by simp)
        (fun b hb=>by obtain⟨m,-,hm⟩:=q3 b hb;exact(hc.own m b hm).2.1) (by simpa using hb.1) (by simpa using hb.2)
       have zb:Below w.heap.size w w':=⟨r7,r8,r9,r5,fun k hk=>r6 k hk (by simp)⟩;refine⟨v,w',r1,S,fun i=>if i=d then Fv else if i∈My then[]else F i,?_,by rw[size_put];exact hN,by rw[dV];exact ig,jl,gw,cU.Jq zb⟩;rw[ll (by rw[hN];exact hd)];have AF:(if ys.isEmpty then AV.list .nil 0 []else .list .own ti.size ys)=(if Fl.nil=Fl.nil/\ys=[]then AV.list .nil 0 []else .list .own ti.size ([]++ys)):=by by_cases h0:ys=[]<;>simp[h0]
       rw[AF];exact hc.make My d _ v Fv cU.new r5 (fun b dr _=>r6 b dr (by simp)) r3
        (fun b hb=>(r4 b hb).elim (fun h=>by simp at h) (fun h=>h.imp (q3 b) id)) r2
      simp at hm
     ·rename_i Qt xs hx;split at hm
      ·rename_i hb;obtain⟨rfl,tg,Ds⟩:=hb;split at hm
       ·rename_i r g1 g2 p bQ;split at hm
        ·simp at hm
        rename_i R4;simp only[Option.some.injEq]at hm;subst hm;cases x with
        |const v=>simp only[resolve]at bQ;have:=cV v;rw[bQ]at this;simp[AV.plain]at this
        |func f=>simp[resolve]at bQ
        |global g=>simp[resolve,Sl.none]at bQ
        |tmp t'=>
         have Zh:(σ t').av=.bg r g1 g2 p:=by revert bQ;simp only[resolve,bo.of];split<;>first|exact id|(intro h;simp[Sl.none]at h)
         obtain⟨jm,VK,VJ⟩:=zZ Zh hx;have Dm:(σ r).av.plain=true:=by
          by_cases hp:p=[]
          ·subst hp;simp only[a6,Option.some.injEq]at jm;rw[jm];exact VJ
          exact VK hp
         simp only[Mv.runs,Mv.run]at hr;split at hr
         ·rename_i σ1 mU;simp only[Option.some.injEq]at hr;subst hr;split at mU
          ·simp at mU
          rename_i O8;rw[jm]at mU;simp only at mU;split at mU
          ·rename_i av' hs;simp only[Option.some.injEq]at mU;subst mU;obtain⟨S,F,hc,hN,ig,jl,gw,cU⟩:=h;obtain⟨L,z,Fx,F',k1,k2,k3,k4,k5,k6⟩:=hc.take r d p O8 Dm jm hs;have hz:=DZ hc Zh hx k1 k2 k3;obtain⟨ly,Gy,q1,q2,q3,q4⟩:=OJ S F hc;have VH:∀b∈Gy,∃m∈My,m≠d/\b∈F' m:=by
            intro b hb;obtain⟨m,hm,oY⟩:=q3 b hb;have TU:m≠d:=fun e=>acr (e▸hm);have hmr:m≠r:=fun e=>R4 (e▸hm);exact⟨m,hm,TU,by rw[k6 m hmr TU];exact oY⟩
           have VP:(Fx++Gy).Nodup:=by rw[List.nodup_append];refine⟨k5▸k4.nodup d,q4,fun b hb c bT e=>?_⟩;subst e;obtain⟨m,-,TU,oY⟩:=VH b bT;exact k4.cx d m (fun e=>TU e.symm) b (k5▸hb) oY
           obtain⟨v,w',Fv,r1,r2,r3,r4,r5,r6,r7,r8,r9⟩:=sj (P:=P) (ty:=ty) he ga pJ k3 q1 q2 (.inr ⟨rfl,rfl⟩) V3 iC VP hc.shr
            (fun b hb=>(k4.own d b (k5▸hb)).2) (fun b hb=>by obtain⟨m,-,-,hm⟩:=VH b hb;exact(k4.own m b hm).2.1) tg Ds
           have zb:qS V w0 w w':=⟨r7,r8,r9,r5,fun k hk YF=>r6 k (Nat.lt_of_lt_of_le hk cU.size) (fun hb=>s6 (k4.own d k (k5▸hb)).1 hk YF)⟩;rw[hz,<-gh V a (dT oL)]at r1;refine⟨v,w',r1,S,fun i=>if i=d then Fv else if i∈d::My then[]else F' i,?_,by rw[size_put];exact hN,by rw[dV];exact ig,jl,gw,cU.trans zb⟩;rw[ll (by rw[hN];exact hd)];have hT:fB (tv V a) d v=fB (fB (tv V a) d z) d v:=by funext i;simp only[fB];split<;>rfl
           rw[hT];refine k4.make (d::My) d _ v Fv cU.new r5 (fun b dr oY=>?_) r3 (fun b hb=>?_) r2
           ·exact r6 b dr (fun hb=>oY d (by simp) (k5▸hb))
           rcases r4 b hb with h|h|h
           ·exact .inl ⟨d,by simp,k5▸h⟩
           ·obtain⟨m,hm,-,oY⟩:=VH b h;exact .inl ⟨m,by simp[hm],oY⟩
           exact .inr h
          simp at mU
         simp at hr
       rename_i Io;split at hm
       ·rename_i s hs;split at hm
        ·simp at hm
        rename_i hsM;simp only[Option.some.injEq]at hm;subst hm;simp only[iJ,Option.some.injEq]at hr;subst hr;obtain⟨t',rfl⟩:∃t',x=.tmp t':=by cases x<;>simp[resolve]at hs;exact⟨_,rfl⟩
        have yV:(resolve σ (.tmp t')).s=some t'/\(resolve σ (.tmp t')).sl=σ t':=by revert hs;simp only[resolve,bo.of];split<;>first|(intro _;exact⟨rfl,rfl⟩)|(intro h;simp at h)
        rw[yV.1]at hs;simp only[Option.some.injEq]at hs;subst hs;rw[yV.2]at Io;have gJ:(σ t').av.plain=true:=by
         cases hh:(σ t').av with
         |bg r g1 g2 p=>exact absurd hh (Io r g1 g2 p)
         |ptr r g1 g2 p=>simp[resolve,bo.of,hh,bo.cont]at hx
         |abs J=>simp[resolve,bo.of,hh,bo.cont,Sl.none]at hx
         |dY g aW=>simp[resolve,bo.of,hh,bo.cont]at hx
         |_=>rfl
        obtain⟨S,F,hc,hN,ig,jl,gw,cU⟩:=h;obtain⟨Fx,ex,-,e3,-⟩:=aM hc (.tmp t') oL hx;obtain⟨rfl,-⟩:=e3 t' rfl gJ;obtain⟨ly,Gy,q1,q2,q3,q4⟩:=OJ S F hc;have VH:∀b∈Gy,∃m∈My,m≠t'/\b∈F m:=by intro b hb;obtain⟨m,hm,oY⟩:=q3 b hb;exact⟨m,hm,fun e=>hsM (e▸hm),oY⟩
        have VP:(F t'++Gy).Nodup:=by rw[List.nodup_append];refine⟨hc.nodup t',q4,fun b hb c bT e=>?_⟩;subst e;obtain⟨m,-,TU,oY⟩:=VH b bT;exact hc.cx t' m (fun e=>TU e.symm) b hb oY
        obtain⟨v,w',Fv,r1,r2,r3,r4,r5,r6,r7,r8,r9⟩:=sj (P:=P) (ty:=ty) he ga pJ ex q1 q2 (.inr ⟨rfl,rfl⟩) V3 iC VP hc.shr
         (fun b hb=>(hc.own t' b hb).2) (fun b hb=>by obtain⟨m,-,-,hm⟩:=VH b hb;exact(hc.own m b hm).2.1) tg Ds
        have zb:qS V w0 w w':=⟨r7,r8,r9,r5,fun k hk YF=>r6 k (Nat.lt_of_lt_of_le hk cU.size) (fun hb=>s6 (hc.own t' k hb).1 hk YF)⟩;refine⟨v,w',r1,S,fun i=>if i=d then Fv else if i∈t'::My then[]else F i,?_,by rw[size_put];exact hN,by rw[dV];exact ig,jl,gw,cU.trans zb⟩;rw[ll (by rw[hN];exact hd)];refine hc.make (t'::My) d _ v Fv cU.new r5 (fun b dr oY=>?_) r3 (fun b hb=>?_) r2
        ·exact r6 b dr (fun hb=>oY t' (by simp) hb)
        rcases r4 b hb with h|h|h
        ·exact .inl ⟨t',by simp,h⟩
        ·obtain⟨m,hm,-,oY⟩:=VH b h;exact .inl ⟨m,by simp[hm],oY⟩
        exact .inr h
       simp at hm
      simp at hm
     simp at hm
    simp at hm
   simp at hm
  simp at hm
 simp at hm
end
section
variable{P:Program}{N:Nat}{w0 w:World}{V:Hid}{S S0:Nat->Prop}{B:Nat->Prop}{σ σ':St}{a:Act}{F:Nat->List Nat}
theorem Kg(d:Nat){t:TypeId}(hu:P.underlying t=some .bool)(x y:Bool)(w:World):(Op.equalIn (d+1) t (.bool x) (.bool y)).run P w=.ok (x==y) w:=by simp[Op.equalIn,run_underlying hu]
theorem zG(d:Nat){t e:TypeId}(hu:P.underlying t=some (.slice e))(x:Option Addr)(n c:Nat)(w:World):(Op.equalIn (d+1) t (.slice x n c) (.slice none 0 0)).run P w=.ok x.isNone w:=by cases x<;>simp[Op.equalIn,run_underlying hu]
theorem zH(d:Nat){t e:TypeId}(hu:P.underlying t=some (.pointer e))(x:Option Addr)(w:World):(Op.equalIn (d+1) t (.pointer x) (.pointer none)).run P w=.ok x.isNone w:=by cases x<;>simp[Op.equalIn,run_underlying hu]
theorem SD(d:Nat){t:TypeId}{p r:Array TypeId}{b:Bool}(hu:P.underlying t=some (.func p r b))(f:Fn)(x y:Array Value)(w:World):(Op.equalIn (d+1) t (.func f x y) .nilFunc).run P w=.ok false w:=by simp[Op.equalIn,run_underlying hu]
theorem IJ(d:Nat){t:TypeId}{p r:Array TypeId}{b:Bool}(hu:P.underlying t=some (.func p r b))(w:World):(Op.equalIn (d+1) t .nilFunc .nilFunc).run P w=.ok true w:=by simp[Op.equalIn,run_underlying hu]
theorem Gx(t:TypeId)(x y:Value):Op.equal t x y=Op.equalIn (9999+1) t x y:=rfl
set_option maxHeartbeats 1000000 in
theorem NG{op:BinOp}{t:TypeId}{x y v:Value}(X Y:Operand)(h:uz P op t x y=some v)(w:World):
 (do eqGuard op t X Y x y;binOp op t x y:Sem Value).run P w=.ok v w:=by
 unfold uz at h;split at h
 ·rename_i k n k' m;rw[eqGuard_at_int];split at h
  ·split at h
   ·simp at h
   rename_i hb;simp only[Option.some.injEq]at h;subst h;simp[binOp,Op.shift,hb]
  ·split at h
   ·simp at h
   rename_i hb;simp only[Option.some.injEq]at h;subst h;simp[binOp,Op.shift,hb]
  split at h
  ·rename_i hk;subst hk;split at h
   ·simp only[Option.some.injEq]at h;subst h;simp[binOp,Op.intArith]
   ·simp only[Option.some.injEq]at h;subst h;simp[binOp,Op.intArith]
   ·simp only[Option.some.injEq]at h;subst h;simp[binOp,Op.intArith]
   ·split at h
    ·simp at h
    rename_i hb;simp only[Option.some.injEq]at h;subst h;simp[binOp,Op.intDiv,hb]
   ·split at h
    ·simp at h
    rename_i hb;simp only[Option.some.injEq]at h;subst h;simp[binOp,Op.intDiv,hb]
   ·simp only[Option.some.injEq]at h;subst h;simp[binOp,Op.intBits]
   ·simp only[Option.some.injEq]at h;subst h;simp[binOp,Op.intBits]
   ·simp only[Option.some.injEq]at h;subst h;simp[binOp,Op.intBits]
   ·simp only[Option.some.injEq]at h;subst h;simp[binOp,Op.intBits]
   ·simp only[Option.some.injEq]at h;subst h;simp[binOp,Op.intCmp]
   ·simp only[Option.some.injEq]at h;subst h;simp[binOp,Op.intCmp]
   ·simp only[Option.some.injEq]at h;subst h;simp[binOp,Op.intCmp]
   ·simp only[Option.some.injEq]at h;subst h;simp[binOp,Op.intCmp]
   ·simp only[Option.some.injEq]at h;subst h;simp[binOp,Op.intCmp]
   ·simp only[Option.some.injEq]at h;subst h;simp[binOp,Op.intCmp]
   simp at h
  simp at h
 ·rename_i s s';rw[eqGuard_at_string];split at h
  ·split at h
   ·simp at h
   rename_i hb;simp only[Option.some.injEq]at h;subst h;simp only[Sem.run_bind,Sem.run_pure,Result.andThen_ok,binOp,Op.stringOp,hb,if_false]
  ·simp only[Option.some.injEq]at h;subst h;simp[binOp,Op.stringOp]
  ·simp only[Option.some.injEq]at h;subst h;simp[binOp,Op.stringOp]
  ·simp only[Option.some.injEq]at h;subst h;simp[binOp,Op.stringOp]
  simp at h
 ·rename_i b b';rw[eqGuard_at_bool];split at h
  ·rename_i hu;split at h
   ·simp only[Option.some.injEq]at h;subst h;simp only[binOp,Sem.run_bind,Sem.run_pure,Result.andThen_ok,Gx,Kg 9999 hu]
   ·simp only[Option.some.injEq]at h;subst h;simp only[binOp,Sem.run_bind,Sem.run_pure,Result.andThen_ok,Gx,Kg 9999 hu]
   simp at h
  simp at h
 simp at h
theorem K6{op:BinOp}{t:TypeId}{x y:AV}{b:Bool}{zx zy:Value}{F1 F2:List Nat}(X Y:Operand)(h:isNil P t x y=some b)(hx:Rel w S x zx F1)(hy:Rel w S y zy F2)(bH:op=.eql\/op=.neq):
 (do eqGuard op t X Y zx zy;binOp op t zx zy:Sem Value).run P w=.ok (.bool (if op=.eql then b else !b)) w:=by
 have fin:∀u,P.underlying t=some u->(eqGuard op t X Y zx zy=pure ())->((Op.equal t zx zy).run P w=.ok b w)->(∀k n,zx≠.int k n)->(∀s,zx≠.string s)->(∀k n,zx≠.float k n)->(∀k n m,zx≠.complex k n m)->
  (do eqGuard op t X Y zx zy;binOp op t zx zy:Sem Value).run P w=.ok (.bool (if op=.eql then b else !b)) w:=by
  intro u hu hg he h1 h2 h3 h4;rw[hg];rcases bH with rfl|rfl
  ·have:binOp .eql t zx zy=(do pure (.bool (←Op.equal t zx zy))):=by
    unfold binOp;cases zx<;>first|rfl|exact absurd rfl (h1 _ _)|exact absurd rfl (h2 _)|exact absurd rfl (h3 _ _)|exact absurd rfl (h4 _ _ _)
   simp[this,he]
  have:binOp .neq t zx zy=(do pure (.bool (!(←Op.equal t zx zy)))):=by unfold binOp;cases zx<;>first|rfl|exact absurd rfl (h1 _ _)|exact absurd rfl (h2 _)|exact absurd rfl (h3 _ _)|exact absurd rfl (h4 _ _ _)
  simp[this,he]
 unfold isNil at h;split at h
 ·split at h
  ·rename_i f _ xs;split at h
   ·rename_i e hu;obtain⟨rfl,rfl,-⟩:=sN hy;obtain⟨ad,cap,rfl,-,h1,h2,-⟩:=hx.iz;refine fin _ hu (eqGuard_at_slice ..) ?_ (by simp) (by simp) (by simp) (by simp);cases f with
    |nil=>obtain⟨rfl,-,-⟩:=h1 rfl;simp only[Option.some.injEq]at h;subst h;exact zG 9999 hu _ _ _ w
    |shr=>
     simp only at h;split at h
     ·simp at h
     rename_i cR;obtain⟨b',o',rfl⟩:=h2 (by simp) (by simpa using cR);simp only[Option.some.injEq]at h;subst h;exact zG 9999 hu _ _ _ w
    |own=>
     simp only at h;split at h
     ·simp at h
     rename_i cR;obtain⟨b',o',rfl⟩:=h2 (by simp) (by simpa using cR);simp only[Option.some.injEq]at h;subst h;exact zG 9999 hu _ _ _ w
   simp at h
  simp at h
 ·split at h
  ·rename_i e hu;simp only[Rel]at hy;obtain⟨-,rfl,-⟩:=hy;split at h
   ·simp only[Option.some.injEq]at h;subst h;simp only[Rel]at hx;obtain⟨b',cs,fz,F',z,rfl,-⟩:=hx;exact fin _ hu (eqGuard_at_pointer ..) (zH 9999 hu _ w) (by simp) (by simp) (by simp) (by simp)
   ·simp only[Option.some.injEq]at h;subst h;simp only[Rel]at hx;obtain⟨-,rfl,-⟩:=hx;exact fin _ hu (eqGuard_at_pointer ..) (zH 9999 hu _ w) (by simp) (by simp) (by simp) (by simp)
   simp at h
  simp at h
 ·split at h
  ·rename_i hu;simp only[Rel]at hy;obtain⟨-,rfl,-⟩:=hy;split at h
   ·simp only[Option.some.injEq]at h;subst h;simp only[Rel]at hx;obtain⟨a',c',F3,F4,rfl,-⟩:=hx;exact fin _ hu (eqGuard_at_func ..) (SD 9999 hu _ _ _ w) (by simp) (by simp) (by simp) (by simp)
   ·simp only[Option.some.injEq]at h;subst h;simp only[Rel]at hx;obtain⟨-,rfl,-⟩:=hx;exact fin _ hu (eqGuard_at_nilFunc ..) (IJ 9999 hu w) (by simp) (by simp) (by simp) (by simp)
   simp at h
  simp at h
 simp at h
theorem MG{d t:Nat}{op:BinOp}(h:Inv N V w0 S0 σ a w)(hd:d<N)(x y:Operand)(oL:aE x=true)(Xa:aE y=true){ax ay v:AV}
 (hx:(resolve σ x).cont=some ax)(hy:(resolve σ y).cont=some ay)(hm:ke P op t ax ay=some v)(hr:Mv.runs σ [.put d v]=some σ'):
 Good N V w0 S0 σ' a d ((do eqGuard op t x y (a.eval x) (a.eval y);binOp op t (a.eval x) (a.eval y):Sem Value).run P w):=by
 have uX:∀b,isNil P t ax ay=some b->(op=.eql/\v=.v (.bool b)\/op=.neq/\v=.v (.bool !b))->Good N V w0 S0 σ' a d ((do eqGuard op t x y (a.eval x) (a.eval y);binOp op t (a.eval x) (a.eval y):Sem Value).run P w):=by intro b hb hv;have hI:=h;obtain⟨S,F,hc,-⟩:=h;obtain⟨F1,e1,-⟩:=aM hc x oL hx;obtain⟨F2,e2,-⟩:=aM hc y Xa hy;have bp:=K6 (P:=P) (op:=op) x y hb e1 e2 (by rcases hv with h|h<;>simp[h.1]);refine dh hI hd hr bp fun S' F' bT=>?_;rcases hv with⟨rfl,rfl⟩|⟨rfl,rfl⟩<;>simp[Rel,scalar]
 have TR:HW op (isNil P t ax ay)=some v->Good N V w0 S0 σ' a d ((do eqGuard op t x y (a.eval x) (a.eval y);binOp op t (a.eval x) (a.eval y):Sem Value).run P w):=by
  intro hm;cases hb:isNil P t ax ay with
  |none=>rw[hb]at hm;cases op<;>simp[HW]at hm
  |some b=>
   rw[hb]at hm;cases op<;>simp[HW]at hm
   ·exact uX b hb (.inl ⟨rfl,hm.symm⟩)
   exact uX b hb (.inr ⟨rfl,hm.symm⟩)
 unfold ke at hm;split at hm
 ·rename_i va;split at hm
  ·rename_i vb;split at hm
   ·rename_i v0 hs;simp only[Option.some.injEq]at hm;subst hm;have hI:=h;obtain⟨S,F,hc,-⟩:=h;have e1:=cv hc x oL hx;have e2:=cv hc y Xa hy;have bp:=NG (P:=P) x y hs w;rw[<-e1,<-e2]at bp;refine dh hI hd hr bp fun S' F' bT=>?_;have hsc:scalar v0=true:=by
     unfold uz at hs
     repeat' split at hs
     all_goals first|(simp only[Option.some.injEq]at hs;subst hs;rfl)|simp at hs
    simp[Rel,hsc]
   exact TR hm
  simp at hm
 exact TR hm
theorem Nd{d:Nat}{op:UnOp}(h:Inv N V w0 S0 σ a w)(hd:d<N)(x:Operand)(oL:aE x=true){vx v:Value}
 (hx:(resolve σ x).cont=some (.v vx))(hm:UA op vx=some v)(hr:Mv.runs σ [.put d (.v v)]=some σ'):Good N V w0 S0 σ' a d ((Op.unary op (a.eval x)).run P w):=by
 have hI:=h;obtain⟨S,F,hc,-⟩:=h;have e1:=cv hc x oL hx;refine dh (z:=v) hI hd hr ?_ fun S' F' bT=>?_
 ·rw[e1];unfold UA at hm;split at hm<;>first|(simp only[Option.some.injEq]at hm;subst hm;simp[Op.unary,Op.intArith,Op.intBits])|simp at hm
 have hsc:scalar v=true:=by unfold UA at hm;split at hm<;>first|(simp only[Option.some.injEq]at hm;subst hm;rfl)|simp at hm
 simp[Rel,hsc]
end
section
variable{P:Program}{N:Nat}{w0 w:World}{V:Hid}{S S0:Nat->Prop}{B:Nat->Prop}{σ σ':St}{a:Act}{F:Nat->List Nat}
theorem u7(off:Nat):∀(l:List Value)(k:Nat)(cs:Array Value),off+k+l.length<=cs.size->
 ((l.zipIdx k).foldl (fun cs(p:Value×Nat)=>cs.setIfInBounds (off+p.2) p.1) cs).toList=cs.toList.take (off+k)++l++cs.toList.drop (off+k+l.length)
 |[],k,cs,h=>by simp
 |v::l,k,cs,h=>by
  simp only[List.zipIdx_cons,List.foldl_cons];simp only[List.length_cons]at h;rw[u7 off l (k+1) _ (by simp;omega)];simp only[Array.toList_setIfInBounds];apply List.ext_getElem?;intro j;by_cases hj:j<off+k
  ·rw[List.append_assoc,List.append_assoc,List.getElem?_append_left (by simp;omega),List.getElem?_append_left (by simp;omega)];rw[List.getElem?_take_of_lt (by omega),List.getElem?_take_of_lt (by omega),List.getElem?_set_ne (by omega)]
  by_cases Xk:j=off+k
  ·subst Xk;rw[List.append_assoc,List.append_assoc,List.getElem?_append_left (by simp;omega),List.getElem?_append_right (by simp;omega)];rw[List.getElem?_take_of_lt (by omega)];simp only[List.length_take,Array.length_toList];rw[show min (off+k) cs.size=off+k by omega,Nat.sub_self];rw[List.getElem?_set_self (by simp;omega)];simp
  by_cases hj3:j<off+k+1+l.length
  ·rw[List.append_assoc,List.append_assoc,List.getElem?_append_right (by simp;omega),List.getElem?_append_left (by simp;omega),List.getElem?_append_right (by simp;omega),List.getElem?_append_left (by simp;omega)];simp only[List.length_take,List.length_set,Array.length_toList];rw[show min (off+(k+1)) cs.size=off+k+1 by omega,show min (off+k) cs.size=off+k by omega];rw[show j-(off+k)=(j-(off+k+1))+1 by omega];simp
  rw[List.getElem?_append_right (by simp;omega),List.getElem?_append_right (by simp;omega)];simp only[List.length_append,List.length_take,List.length_set,Array.length_toList,List.getElem?_drop,List.length_cons];rw[show min (off+(k+1)) cs.size=off+k+1 by omega,show min (off+k) cs.size=off+k by omega];rw[List.getElem?_set_ne (by omega)]
  congr 1;omega
theorem CF{xs o8:List AV}{cs:Array Value}{F1 Fy:List Nat}{o n:Nat}{y:AV}{v:Value}(h:Cells w S true xs cs.toList F1)(hs:xX xs o n y=some o8)(hy:Rel w S y v Fy)(hN:(F1++Fy).Nodup):
 v.cells.size=n/\o+n<=cs.size/\∃F',Cells w S true o8 (cs.toList.take o++v.cells.toList++cs.toList.drop (o+n)) F'/\F'.Nodup/\∀b∈F',b∈F1\/b∈Fy:=by
 have hlen:=Cells.length h;simp only[Array.length_toList]at hlen;unfold xX at hs;split at hs
 ·rename_i YC;obtain⟨A,G,rfl,c1,c2⟩:=Cells.split o h;obtain⟨Fx,B',rfl,d1,d2⟩:=Cells.split n c2;rw[List.drop_drop,List.drop_drop]at d2;have Zd:∀ys,Cells w S true ys v.cells.toList Fy->∃F',Cells w S true (xs.take o++ys++xs.drop (o+n)) (cs.toList.take o++v.cells.toList++cs.toList.drop (o+n)) F'/\F'.Nodup/\∀b∈F',b∈A++(Fx++B')\/b∈Fy:=by
   intro ys mC;refine⟨A++Fy++B',Cells.append (Cells.append c1 mC) d2,?_,fun b hb=>?_⟩
   ·rw[List.nodup_append,List.nodup_append,List.nodup_append]at hN;rw[List.nodup_append,List.nodup_append];refine⟨⟨hN.1.1,hN.2.1,fun a ha b hb=>hN.2.2 a (by simp[ha]) b hb⟩,hN.1.2.1.2.1,fun a ha b hb e=>?_⟩;rcases List.mem_append.1 ha with ha|ha
    ·exact hN.1.2.2 a ha b (by simp[hb]) e
    exact hN.2.2 b (by simp[hb]) a ha e.symm
   simp at hb⊢;rcases hb with h|h|h<;>simp[h]
  split at hs
  ·rename_i ys;split at hs
   ·rename_i hl;simp only[Option.some.injEq]at hs;subst hs;simp only[Rel]at hy;obtain⟨cy,rfl,hC⟩:=hy;have:=Cells.length hC;simp only[Array.length_toList]at this;exact⟨by rw[aZ];omega,by omega,Zd ys (by simpa[aZ]using hC)⟩
   simp at hs
  split at hs
  ·rename_i hna hc;simp only[Bool.and_eq_true,decide_eq_true_eq]at hc;obtain⟨rfl,hc⟩:=hc;simp only[Option.some.injEq]at hs;subst hs;have h1:=hy.one hc;have h1c:=bS h1;refine⟨by rw[h1c];rfl,by omega,?_⟩;have:=Zd [y] (by rw[h1c];simp only[Cells];exact⟨v,[],Fy,[],rfl,by simp,fun _=>h1,hy,rfl,rfl⟩);rw[List.set_eq_take_append_cons_drop,if_pos (by omega)];simpa using this
  simp at hs
 simp at hs
theorem wJ(pl:List (Nat×Nat)):∀(is:List Nat)(ys:List AV)(vs:List Value){xs o8:List AV}{cs:Array Value}{F1 Fy:List Nat},is.length=ys.length->Cells w S true xs cs.toList F1->
 pO pl xs (is.zip ys)=some o8->Cells w S false ys vs Fy->(F1++Fy).Nodup->
 ∃cs' F',Instr.fill (pl.toArray[·]?) cs (is.zip vs)=some cs'/\Cells w S true o8 cs'.toList F'/\F'.Nodup/\∀b∈F',b∈F1\/b∈Fy
 |[],ys,vs,xs,o8,cs,F1,Fy,hl,hC,hf,hy,hN=>by simp only[List.zip_nil_left,pO,Option.some.injEq]at hf;subst hf;exact⟨cs,F1,by simp[Instr.fill],hC,(List.nodup_append.1 hN).1,fun b hb=>.inl hb⟩
 |i::is,[],vs,xs,o8,cs,F1,Fy,hl,hC,hf,hy,hN=>by simp at hl
 |i::is,y::ys,vs,xs,o8,cs,F1,Fy,hl,hC,hf,hy,hN=>by
  simp only[List.length_cons,Nat.add_right_cancel_iff]at hl;simp only[Cells]at hy;obtain⟨v,W2,Fv,Fr,rfl,rfl,-,hv,hr⟩:=hy;simp only[List.zip_cons_cons,pO]at hf;split at hf
  ·rename_i o n gJ;split at hf
   ·rename_i xs1 hs;have Dt:(F1++Fv).Nodup:=by
     rw[<-List.append_assoc]at hN;exact(List.nodup_append.1 hN).1
    obtain⟨e1,e2,F',k1,k2,k3⟩:=CF hC hs hv Dt;have jk:(v.cells.zipIdx.foldl (fun cs(p:Value×Nat)=>cs.setIfInBounds (o+p.2) p.1) cs).toList=cs.toList.take o++v.cells.toList++cs.toList.drop (o+n):=by
     have:=u7 o v.cells.toList 0 cs (by simp;omega);simp only[Nat.add_zero,Array.length_toList,e1]at this;rw[<-this]
     congr 1
     rw[<-Array.foldl_toList];simp
    have Xv:(F'++Fr).Nodup:=by rw[<-List.append_assoc]at hN;rw[List.nodup_append]at hN⊢;refine⟨k2,hN.2.1,fun b hb c hc e=>hN.2.2 b ?_ c hc e⟩;rcases k3 b hb with h|h<;>simp[h]
    obtain⟨cs',MN,q1,q2,q3,q4⟩:=wJ pl is ys W2 hl (cs:=v.cells.zipIdx.foldl (fun cs(p:Value×Nat)=>cs.setIfInBounds (o+p.2) p.1) cs) (by rw[jk];exact k1) hf hr Xv;refine⟨cs',MN,?_,q2,q3,fun b hb=>?_⟩
    ·simp only[List.zip_cons_cons,Instr.fill];have:(pl.toArray[i]?)=some (o,n):=by simpa using gJ
     simp only[this];rw[if_neg (by simp[e1];omega)];exact q1
    rcases q4 b hb with h|h
    ·rcases k3 b h with h|h
     ·exact .inl h
     exact .inr (by simp[h])
    exact .inr (by simp[h])
   simp at hf
  simp at hf
theorem vR{α β γ:Type}(l:List (α×β))(f:β->γ):(l.map (·.1)).zip (l.map fun p=>f p.2)=l.map fun p=>(p.1,f p.2):=by
 induction l with
 |nil=>rfl
 |cons p l ih=>simp[ih]
theorem yC{M:List Nat}{d:Nat}{y:AV}{z:Value}{w':World}(h:Inv N V w0 S0 σ a w)(hd:d<N)(hr:Mv.runs σ [.make M d y]=some σ')(hb:Below w.heap.size w w')
 (hf:∀S F,aK S (bW V w0) σ (tv V a) w F->∃Fy,Rel w' S y z Fy/\Fy.Nodup/\∀b∈Fy,(∃m∈M,b∈F m)\/w.heap.size<=b/\b<w'.heap.size):
 Inv N V w0 S0 σ' (a.put (some d) z) w':=by
 simp only[iJ,Option.some.injEq]at hr;subst hr;exact h.make hd hb hf
theorem G0{d t:Nat}(h:Inv N V w0 S0 σ a w)(hd:d<N)(ps:Array (Nat×Operand))(L4:(ps.toList.map (·.2)).all aE=true){ti:TI}(ga:bE P t=some ti){z cs:List AV}(hz:ti.zero=.agg z)
 {pl:List (Nat×Nat)}(gJ:placesOf P t=some pl){ys:List AV}{M:List Nat}(hg:dX (ps.toList.map fun p=>resolve σ p.2)=some (ys,M))(hf:pO pl z ((ps.toList.map (·.1)).zip ys)=some cs)
 (hr:Mv.runs σ [.make M d (.agg cs)]=some σ'):Good N V w0 S0 σ' a d ((Instr.build t (ps.map fun(i,x)=>(i,a.eval x))).run P w):=by
 obtain⟨i,u,zv,hi,hu,hzv,gb,mM,hzero,Mf,hzc,hzf⟩:=iw ga;have hgx:dX ((ps.toList.map (·.2)).map (resolve σ))=some (ys,M):=by rw[List.map_map];exact hg
 have TQ:∀S F,aK S (bW V w0) σ (tv V a) w F->∃cells F',P.built t (ps.map fun(i,x)=>(i,a.eval x)).toList=some cells/\Cells w S true cs cells.toList F'/\F'.Nodup/\∀b∈F',∃m∈M,b∈F m:=by
  intro S F hc;obtain⟨Fy,g1,g2,g3⟩:=jM hc _ L4 hgx;have W9:=fE w S zv hzf;rw[<-hzero,hz]at W9;simp only[Rel]at W9;obtain⟨zc,rfl,hzC⟩:=W9;have hlen:=Cells.length g1;obtain⟨cs',F',q1,q2,q3,q4⟩:=wJ pl (ps.toList.map (·.1)) ys ((ps.toList.map (·.2)).map a.eval) (by simp at hlen⊢;omega) hzC hf g1 (by simpa using g2);refine⟨cs',F',?_,q2,q3,fun b hb=>?_⟩
  ·unfold placesOf at gJ;split at gJ
   ·rename_i fs hfs;unfold Program.built;simp only[hi,hfs,hzv,gJ,aZ];have e:(ps.map fun(i,x)=>(i,a.eval x)).toList=(ps.toList.map (·.1)).zip ((ps.toList.map (·.2)).map a.eval):=by
     have:=vR ps.toList a.eval;simpa[List.map_map,Function.comp_def]using this.symm
    rw[e];exact q1
   simp at gJ
  rcases q4 b hb with h|h
  ·simp at h
  exact g3 b h
 have hI:=h;obtain⟨S,F,hc,-⟩:=h;obtain⟨cells,F',r1,r2,r3,r4⟩:=TQ S F hc;refine⟨.agg cells,w,run_build w t _ cells r1,yC hI hd hr (.refl _ _) fun S' G bT=>?_⟩;obtain⟨adi,MN,r1',r2',r3',r4'⟩:=TQ S' G bT;rw[r1]at r1';simp only[Option.some.injEq]at r1';subst r1';refine⟨MN,by simp only[Rel];exact⟨cells,rfl,r2'⟩,r3',fun b hb=>.inl (r4' b hb)⟩
end
section
variable{P:Program}{N:Nat}{w0 w:World}{V:Hid}{S S0:Nat->Prop}{B:Nat->Prop}{σ σ':St}{a:Act}{F:Nat->List Nat}
def Ql(w:World)(L:Loc):Prop:=∀a,L=.addr a->∃cs,row? w a.block=some (cs,(0,0))
theorem Rel.KT:∀(p:Path){x x' y y':AV}{z:Value}{F:List Nat}{L L1:Loc},Rel w S x z F->holds w L z->Ql w L->a6 x p=some y->c8 x p y'=some x'->
 loc w L p=some L1->Ql w L1
 |[],x,x',y,y',z,F,L,L1,h,hL,hT,hg,hs,hl=>by simp only[loc,Option.some.injEq]at hl;subst hl;exact hT
 |s::p,x,x',y,y',z,F,L,L1,h,hL,hT,hg,hs,hl=>by
  unfold a6 at hg;split at hg
  ·rename_i f sz xs i fe;split at hg
   ·rename_i ct;subst ct;cases f with
    |nil=>simp[c8]at hs
    |shr=>simp[c8]at hs
    |own=>
     obtain⟨xi,te,hg⟩:=Option.bind_eq_some_iff.1 hg;simp only[c8,te,if_true,Option.bind_some,Option.map_eq_some_iff]at hs;obtain⟨XH,hs,rfl⟩:=hs;simp only[Rel]at h;rcases h with⟨rfl,-,-⟩|⟨b,cap,cs,F',rfl,hr,hc,hm,gb,hE,rfl⟩
     ·simp at te
     obtain⟨yi,A0,Fx,B0,rfl,hy,hR,je,hle,FN⟩:=bU.lens sz i hE te;have hA:At w ⟨b,i*sz,none⟩ yi:=dK hr fun j u hu=>by
      have:=je j u hu;rw[List.getElem?_take]at this;split at this
      ·simpa using this
      simp at this
     rw[loc,bO hL rfl (by simp),bH,bF rfl]at hl;exact Rel.KT p (L:=.addr ⟨b,i*sz,none⟩) hR hA (fun a ha=>by cases ha;exact⟨cs,hr⟩) hg hs (by simpa using hl)
   simp at hg
  ·rename_i own x0;cases own with
   |false=>simp[c8]at hs
   |true=>
    simp only[c8,Option.map_eq_some_iff]at hs;obtain⟨x0',hs,rfl⟩:=hs;simp only[Rel,if_true]at h;obtain⟨b,cs,fz,F',z0,rfl,hr,hR,QA,rfl,rfl⟩:=h;have hA:At w ⟨b,0,none⟩ z0:=dK hr fun j u hu=>by subst QA;simpa using hu
    rw[loc,bO hL rfl (by simp),bH]at hl;exact Rel.KT p (L:=.addr ⟨b,0,none⟩) hR hA (fun a ha=>by cases ha;exact⟨cs,hr⟩) hg hs (by simpa using hl)
  ·rename_i xs o;obtain⟨xo,Vq,hg⟩:=Option.bind_eq_some_iff.1 hg;simp only[c8,Vq,Option.bind_some,Option.map_eq_some_iff]at hs;obtain⟨xo',hs,rfl⟩:=hs;simp only[Rel]at h;obtain⟨cs,rfl,hC⟩:=h;obtain⟨y0,A0,Fx,B0,rfl,h1,hR,kh,FN⟩:=Cells.lens o hC Vq;have Ei:=bS (h1 rfl);have kh:cs[o]?=some y0:=by simpa using kh
   have j7:∃L',step1 w L (.at o none)=some L'/\holds w L' y0/\Ql w L':=by
    cases L with
    |val q=>simp only[holds]at hL;subst hL;exact⟨.val y0,by simp only[step1,bH];simp[kh],rfl,fun a ha=>by cases ha⟩
    |addr a=>
     obtain⟨GO,xB⟩:=hT a rfl;obtain⟨nM,cs',fz,hr,hc⟩:=hL;refine⟨_,rfl,?_,?_⟩
     ·rw[bF nM];refine dK hr fun j u hu=>?_;rw[Ei]at hu
      match j,hu with
      |0,hu=>simp at hu;subst hu;simpa[aZ]using hc o y0 (by simpa[aZ]using kh)
     rw[bF nM];intro a' ha;cases ha;exact⟨GO,xB⟩
   obtain⟨L',e1,e2,e3⟩:=j7;rw[loc,e1]at hl;exact Rel.KT p hR e2 e3 hg hs hl
  ·rename_i xs o n;split at hg
   ·rename_i YC;simp only[c8,YC,if_true,Option.bind_eq_some_iff]at hs;obtain⟨o8,hs,gw⟩:=hs;simp only[Rel]at h;obtain⟨cs,rfl,hC⟩:=h;obtain⟨A0,G,rfl,c1,c2⟩:=Cells.split o hC;obtain⟨Fx,B0,rfl,d1,d2⟩:=Cells.split n c2;have hR:Rel w S (.agg ((xs.drop o).take n)) (.agg (cs.extract o (o+n))) Fx:=by
     simp only[Rel];refine⟨_,rfl,?_⟩;have:(cs.extract o (o+n)).toList=(cs.toList.drop o).take n:=by simp
     rw[this];exact d1
    have j7:∃L',step1 w L (.at o (some n))=some L'/\holds w L' (.agg (cs.extract o (o+n)))/\Ql w L':=by
     cases L with
     |val q=>simp only[holds]at hL;subst hL;exact⟨_,rfl,rfl,fun a ha=>by cases ha⟩
     |addr a=>
      obtain⟨GO,xB⟩:=hT a rfl;obtain⟨nM,cs',fz,hr,hc⟩:=hL;refine⟨_,rfl,?_,?_⟩
      ·rw[bF nM];refine dK hr fun j u hu=>?_;rw[aZ,Array.getElem?_extract]at hu;split at hu
       ·have:=hc (o+j) u (by rw[aZ];exact hu);simpa[Nat.add_assoc]using this
       simp at hu
      rw[bF nM];intro a' ha;cases ha;exact⟨GO,xB⟩
    obtain⟨L',e1,e2,e3⟩:=j7;rw[loc,e1]at hl;exact Rel.KT p hR e2 e3 hg hs hl
   simp at hg
  ·rename_i xs i;obtain⟨xi,te,hg⟩:=Option.bind_eq_some_iff.1 hg;simp only[c8,te,Option.bind_some,Option.map_eq_some_iff]at hs;obtain⟨XH,hs,rfl⟩:=hs;simp only[Rel]at h;obtain⟨cs,rfl,hC⟩:=h;obtain⟨y0,A0,Fx,B0,rfl,-,hR,kh,FN⟩:=Cells.lens i hC te;have kh:cs[i]?=some y0:=by simpa using kh
   have j7:step1 w L (.bC i)=some (.val y0):=by rw[bO hL rfl (by simp)];simp[bH,kh]
   rw[loc,j7]at hl;exact Rel.KT p (L:=.val y0) hR rfl (fun a ha=>by cases ha) hg hs hl
  ·rename_i f sz xs fe o n;cases f<;>simp[c8]at hs
  simp at hg
theorem Be{z:Value}(h:z.oneCell'=true):∀v∈z.cells.toList,v.oneCell'=true:=by rw[bS h];simp[h]
theorem EN{t:TypeId}{ti:TI}(ht:bE P t=some ti){b off:Nat}{cs:Array Value}(hr:row? w b=some (cs,(0,0))){z':Value}(ct:z'.cells.size=ti.size)(h1:∀v∈z'.cells.toList,v.oneCell'=true)
 (lV:off+ti.size<=cs.size):∃w',(storeVar t ⟨b,off,none⟩ z').run P w=.ok () w'/\w'.heap.size=w.heap.size/\Below w.heap.size w w'=Below w.heap.size w w'/\(∀c,c≠b->w'.heap[c]?=w.heap[c]?)/\
   row? w' b=some ((cs.toList.take off++z'.cells.toList++cs.toList.drop (off+ti.size)).toArray,(0,0))/\w'=w.setRow b (cs.toList.take off++z'.cells.toList++cs.toList.drop (off+ti.size)).toArray:=by
 have hh:∃e,w.heap[b]?=some (.cells cs e (0,0)):=by
  unfold row? at hr;split at hr
  ·rename_i cs' e fz he;simp only[Option.some.injEq,Prod.mk.injEq]at hr;obtain⟨rfl,rfl⟩:=hr;exact⟨e,he⟩
  simp at hr
 obtain⟨e,he⟩:=hh;have cB:b<w.heap.size:=(Array.getElem?_eq_some_iff.1 he).1;have bp:=run_storeCells_at P b off e z'.cells.toList 0 cs w he (by simp[ct];omega) h1;simp only[Nat.add_zero,Array.length_toList,ct]at bp;refine⟨_,?_,?_,rfl,fun c hc=>?_,?_,rfl⟩
 ·unfold storeVar;simp only[Sem.run_bind,cY ht,Result.andThen_ok,ct,ne_eq,not_true,if_false];exact bp
 ·simp[World.setRow]
 ·simp only[row?,World.setRow];rw[Array.getElem?_modify,if_neg (by omega)]
 have:=setRow_heap w b cs (cs.toList.take off++z'.cells.toList++cs.toList.drop (off+ti.size)).toArray e (0,0) he;simp only[row?,this]
end
section
variable{P:Program}{N:Nat}{w0 w:World}{V:Hid}{S S0:Nat->Prop}{B:Nat->Prop}{σ σ':St}{a:Act}{F:Nat->List Nat}
theorem DX{y:AV}{z:Value}{ti:TI}{F1:List Nat}(hf:fits ti y=true)(hr:Rel w S y z F1):∀v∈z.cells.toList,v.oneCell'=true:=by
 unfold fits at hf;split at hf
 ·simp only[Rel]at hr;obtain⟨cs,rfl,hC⟩:=hr;rw[aZ];have:∀(xs:List AV)(l:List Value)(F1:List Nat),Cells w S true xs l F1->∀v∈l,v.oneCell'=true:=by
   intro xs
   induction xs with
   |nil=>intro l F1 h;simp only[Cells]at h;simp[h.1]
   |cons x xs ih=>
    intro l F1 h;simp only[Cells]at h;obtain⟨y,l',F1,F2,rfl,rfl,h3,h4,h5⟩:=h;intro v hv;rcases List.mem_cons.1 hv with rfl|hv
    ·exact h3 trivial
    exact ih _ _ h5 v hv
  exact this _ _ _ hC
 simp only[Bool.and_eq_true]at hf;exact Be (hr.one hf.2)
theorem EA{t:Nat}(h:Inv N V w0 S0 σ a w)(x y:Operand)(oL:aE x=true)(Xa:aE y=true){ms:List Mv}
 (hm:rF P t (resolve σ x) (resolve σ y)=some ms)(hr:Mv.runs σ ms=some σ'):
 ∃w',(Instr.storeAt t (a.eval x) (a.eval y)).run P w=.ok () w'/\Inv N V w0 S0 σ' a w':=by
 unfold rF at hm;split at hm
 ·rename_i ti ga;split at hm
  ·rename_i r g1 g2 p av hx;split at hm
   ·rename_i y0 hg;split at hm
    ·rename_i Sc;split at hm
     ·rename_i y1 M hga;split at hm
      ·rename_i TX;simp only[Option.some.injEq]at hm;subst hm;obtain⟨S,F,hc,hN,ig,jl,gw,cU⟩:=h;obtain⟨-,-,rfl,-,Is⟩:=iH hc x oL hx;obtain⟨ad,hl,he⟩:=Is fun _=>⟨y0,hg⟩;have hp:=sT hg hl;simp only[Mv.runs,Mv.run]at hr;obtain⟨Fv,q1,q2,q3⟩:=mO hc y Xa hga;split at hr
       ·rename_i σ1 bp;simp only[Option.some.injEq]at hr;subst hr;split at bp
        ·simp at bp
        rename_i R4;split at bp
        ·rename_i av' jk;simp only[Option.some.injEq]at bp;subst bp;obtain⟨z,hA,⟨F1,hz⟩,hB,j7⟩:=hc.store r M p R4 hp hg jk hl q1 q2 q3;have ct:=qA (by simp only[Bool.and_eq_true]at Sc;exact Sc.1) hz;have OM:=qA TX q1;have Yu:Ql w (.addr ad):=by
          have hR:=hc.rel r;rw[ai.ar hp]at hR;exact Rel.KT p (L:=.val (tv V a r)) hR rfl (fun a ha=>by cases ha) hg jk hl
         obtain⟨cs,c5⟩:=Yu ad rfl;obtain⟨nM,cs',fz,TO,je⟩:=hA;rw[c5]at TO;obtain⟨rfl,rfl⟩:cs=cs'/\(0,0)=fz:=by simpa using TO
         have pJ:0<ti.size:=by simp only[Bool.and_eq_true,bne_iff_ne,ne_eq]at Sc;omega
         have acj:fits ti y0=true:=by simp only[Bool.and_eq_true]at Sc;exact Sc.1
         have lV:ad.off+ti.size<=cs.size:=by have yZ:z.cells[ti.size-1]?=some (z.cells[ti.size-1]'(by omega)):=Array.getElem?_eq_getElem _;have:=je (ti.size-1) _ yZ;have:=(Array.getElem?_eq_some_iff.1 this).1;omega
         obtain⟨w',e1,e2,-,e3,e4,e5⟩:=EN (P:=P) ga c5 OM (DX TX q1) lV;obtain⟨F',bT⟩:=j7 (by omega) (fun Vn=>by
          rcases j9 acj hz with⟨_,_,rfl,_⟩|⟨e,_⟩
          ·simp[Value.oneCell']at Vn
          rcases j9 TX q1 with⟨e',_⟩|⟨_,e'⟩
          ·simp[e]at e'
          ·exact e') w' e2 e3 (fun GO IB h0=>by
          rw[c5]at h0;obtain⟨rfl,rfl⟩:cs=GO/\(0,0)=IB:=by simpa using h0
          refine⟨_,e4,by simp only[List.size_toArray,List.length_append,List.length_take,List.length_drop,Array.length_toList,OM];omega,fun j u hu=>?_,fun k hk=>?_⟩
          ·have hj:j<ti.size:=by rw[<-OM];exact(Array.getElem?_eq_some_iff.1 hu).1
           simp only[List.getElem?_toArray];rw[List.getElem?_append_left (by simp;omega),List.getElem?_append_right (by simp;omega)];simp only[List.length_take,Array.length_toList];rw[show min ad.off cs.size=ad.off by omega,show ad.off+j-ad.off=j by omega];simpa using hu
          simp only[List.getElem?_toArray];rw[OM]at hk;rcases hk with hk|hk
          ·rw[List.append_assoc,List.getElem?_append_left (by simp;omega),List.getElem?_take_of_lt hk];simp
          rw[List.getElem?_append_right (by simp;omega)];simp only[List.length_append,List.length_take,Array.length_toList,List.getElem?_drop,OM];rw[show min ad.off cs.size=ad.off by omega,show ad.off+ti.size+(k-(ad.off+ti.size))=k by omega];simp)
         refine⟨w',?_,S,F',bT,hN,ig,jl,gw,?_⟩
         ·have:ad=⟨ad.block,ad.off,none⟩:=by cases ad;simp only at nM;subst nM;rfl
          unfold Instr.storeAt;rw[he];simp only[Instr.sureAddr];rw[this];simpa using e1
         rw[e5];exact cU.trans ⟨rfl,rfl,rfl,by simp[World.setRow],fun k hk YF=>setRow_other w ad.block k _ (fun e=>s6 hB (e▸hk) (e▸YF))⟩
        simp at bp
       simp at hr
      simp at hm
     simp at hm
    simp at hm
   simp at hm
  simp at hm
 simp at hm
theorem yD{M:List Nat}{d:Nat}{y:AV}{z:Value}{e:TypeId}(h:Inv N V w0 S0 σ a w)(hd:d<N)(hr:Mv.runs σ [.make M d (.box true y)]=some σ')
 (hf:∀S F,aK S (bW V w0) σ (tv V a) w F->∃Fy,Rel w S y z Fy/\Fy.Nodup/\∀b∈Fy,∃m∈M,b∈F m):
 Inv N V w0 S0 σ' (a.put (some d) (.pointer (some ⟨w.heap.size,0,none⟩))) (w.alloc (.cells z.cells e)):=by
 refine yC h hd hr ((Below.refl _ _).alloc (Nat.le_refl _) _) fun S F hc=>?_;obtain⟨Fy,h1,h2,h3⟩:=hf S F hc;have cB:∀b∈Fy,b<w.heap.size:=fun b hb=>by obtain⟨m,_,hm⟩:=h3 b hb;exact(hc.own m b hm).2.1
 refine⟨w.heap.size::Fy,?_,List.nodup_cons.2 ⟨fun hb=>by have:=cB _ hb;omega,h2⟩,fun b hb=>?_⟩
 ·simp only[Rel,if_true];exact⟨w.heap.size,z.cells,(0,0),Fy,z,rfl,mJ _ _ _,Rel.frame _ h1 (fun b hb=>mI _ _ (by rcases hb with hb|hb;exact hc.shr b hb;exact cB b hb)),rfl,rfl,rfl⟩
 rcases List.mem_cons.1 hb with rfl|hb
 ·exact .inr ⟨Nat.le_refl _,by simp⟩
 exact .inl (h3 b hb)
theorem He{d t:Nat}(h:Inv N V w0 S0 σ a w)(hd:d<N){ti:TI}(ga:bE P t=some ti)(hr:Mv.runs σ [.make [] d (.box true ti.zero)]=some σ'):
 Good N V w0 S0 σ' a d ((Instr.alloc t true (.tuple #[])).run P w):=by
 obtain⟨z,hz,TK,Vm,hz4⟩:=xZ ga w;refine⟨_,_,?_,yD (z:=z) (e:=t) h hd hr fun S F hc=>⟨[],by rw[TK];exact fE w S z hz4,by simp,by simp⟩⟩;simp[Instr.alloc,hz,newVar,newRow]
theorem MD{d t:Nat}(h:Inv N V w0 S0 σ a w)(hd:d<N)(x:Operand)(hx:aE x=true){y:AV}{M:List Nat}(hg:c6 (resolve σ x)=some (y,M))
 (hr:Mv.runs σ [.make M d (.box true y)]=some σ'):Good N V w0 S0 σ' a d ((Instr.box t (a.eval x)).run P w):=by
 refine⟨_,_,?_,yD (z:=a.eval x) (e:=t) h hd hr fun S F hc=>mO hc x hx hg⟩;simp[Instr.box,newVar,newRow]
theorem Cells.XC{ti:TI}:∀{ys:List AV}{one:Bool}{vs:List Value}{F:List Nat},Cells w S one ys vs F->ys.all (fits ti)=true->bU w S ti.size ys (vs.flatMap (·.cells.toList)) F
 |[],one,vs,F,h,_=>by simp only[Cells]at h;obtain⟨rfl,rfl⟩:=h;simp[bU]
 |y::ys,one,vs,F,h,hf=>by simp only[Cells]at h;obtain⟨z,l',F1,F2,rfl,rfl,h3,h4,h5⟩:=h;simp only[List.all_cons,Bool.and_eq_true]at hf;simp only[bU,List.flatMap_cons];exact⟨z,_,F1,F2,rfl,rfl,qA hf.1 h4,h4,Cells.XC h5 hf.2⟩
theorem zw(size:Nat):∀(vs:List Value)(k:Nat)(cs:Array Value),(∀v∈vs,v.cells.size=size)->(k+vs.length)*size<=cs.size->
 Instr.fill (fun i=>some (i*size,size)) cs ((List.range' k vs.length).zip vs)=some (cs.toList.take (k*size)++vs.flatMap (·.cells.toList)++cs.toList.drop ((k+vs.length)*size)).toArray
 |[],k,cs,_,_=>by simp[Instr.fill]
 |v::vs,k,cs,h,hl=>by
  simp only[List.length_cons]at hl⊢;have hv:=h v (by simp);have e1:(k+(vs.length+1))*size=k*size+size+vs.length*size:=by rw[Nat.add_mul,Nat.add_mul];omega
  have e2:(k+1+vs.length)*size=k*size+size+vs.length*size:=by rw[Nat.add_mul,Nat.add_mul];omega
  have e3:(k+1)*size=k*size+size:=by rw[Nat.add_mul];omega
  simp only[List.range'_succ,List.zip_cons_cons,Instr.fill,hv,ne_eq,not_true,decide_false,Bool.false_or,decide_eq_true_eq];rw[if_neg (by omega)];have jk:(v.cells.zipIdx.foldl (fun cs(p:Value×Nat)=>cs.setIfInBounds (k*size+p.2) p.1) cs).toList=cs.toList.take (k*size)++v.cells.toList++cs.toList.drop (k*size+size):=by
   have:=u7 (k*size) v.cells.toList 0 cs (by simp;omega);simp only[Nat.add_zero,Array.length_toList,hv]at this;rw[<-this]
   congr 1
   rw[<-Array.foldl_toList];simp
  have ct:(v.cells.zipIdx.foldl (fun cs(p:Value×Nat)=>cs.setIfInBounds (k*size+p.2) p.1) cs).size=cs.size:=by rw[<-Array.length_toList,jk];simp[hv];omega
  rw[zw size vs (k+1) _ (fun x hx=>h x (by simp[hx])) (by rw[ct];omega),jk,e1,e2,e3]
  congr 2
  rw[List.take_append_of_le_length (by simp[hv];omega),List.take_of_length_le (by simp[hv];omega),List.drop_append,List.drop_eq_nil_of_le (by simp[hv];omega)];simp only[List.length_append,List.length_take,Array.length_toList,hv,List.drop_drop,List.flatMap_cons,List.nil_append,List.append_assoc]
  congr 4
  omega
theorem Cells.wI{size:Nat}:∀(vs:List Value),(∀v∈vs,v.cells.size=size)->(vs.flatMap (·.cells.toList)).length=vs.length*size
 |[],_=>by simp
 |v::vs,h=>by simp[Nat.add_mul,Cells.wI vs (fun x hx=>h x (by simp[hx])),h v (by simp)];omega
theorem Cells.Bv{ti:TI}:∀{ys:List AV}{one:Bool}{vs:List Value}{F:List Nat},Cells w S one ys vs F->ys.all (fits ti)=true->∀v∈vs,v.cells.size=ti.size
 |[],one,vs,F,h,_=>by simp only[Cells]at h;simp[h.1]
 |y::ys,one,vs,F,h,hf=>by
  simp only[Cells]at h;obtain⟨z,l',F1,F2,rfl,rfl,h3,h4,h5⟩:=h;simp only[List.all_cons,Bool.and_eq_true]at hf;intro v hv;rcases List.mem_cons.1 hv with rfl|hv
  ·exact qA hf.1 h4
  exact Cells.Bv h5 hf.2 v hv
theorem BR{M:List Nat}{d:Nat}{ys:List AV}{ti:TI}{cs:Array Value}{c:Nat}{e:TypeId}(h:Inv N V w0 S0 σ a w)(hd:d<N)(hr:Mv.runs σ [.make M d (.list .own ti.size ys)]=some σ')(AH:ys.length<=c)(ug:c<=maxLen)(pL:cs.size=c*ti.size)
 (hf:∀S F,aK S (bW V w0) σ (tv V a) w F->∃Fy,bU w S ti.size ys (cs.toList.take (ys.length*ti.size)) Fy/\Fy.Nodup/\∀b∈Fy,∃m∈M,b∈F m):
 Inv N V w0 S0 σ' (a.put (some d) (.slice (some ⟨w.heap.size,0,none⟩) ys.length c)) (w.alloc (.cells cs e)):=by
 refine yC h hd hr ((Below.refl _ _).alloc (Nat.le_refl _) _) fun S F hc=>?_;obtain⟨Fy,h1,h2,h3⟩:=hf S F hc;have cB:∀b∈Fy,b<w.heap.size:=fun b hb=>by obtain⟨m,_,hm⟩:=h3 b hb;exact(hc.own m b hm).2.1
 refine⟨w.heap.size::Fy,?_,List.nodup_cons.2 ⟨fun hb=>by have:=cB _ hb;omega,h2⟩,fun b hb=>?_⟩
 ·simp only[Rel];exact .inr ⟨w.heap.size,c,cs,Fy,rfl,mJ _ _ _,AH,ug,pL,bU.frame _ _ h1 (fun b hb=>mI _ _ (by rcases hb with hb|hb;exact hc.shr b hb;exact cB b hb)),rfl⟩
 rcases List.mem_cons.1 hb with rfl|hb
 ·exact .inr ⟨Nat.le_refl _,by simp⟩
 exact .inl (h3 b hb)
theorem vE{d t e n:Nat}(h:Inv N V w0 S0 σ a w)(hd:d<N)(ps:Array (Nat×Operand))(L4:(ps.toList.map (·.2)).all aE=true){ti:TI}(he:cG P t=some e)(ga:bE P e=some ti)
 {ys:List AV}{M:List Nat}(hg:dX (ps.toList.map fun p=>resolve σ p.2)=some (ys,M))(YW:ps.toList.map (·.1)=List.range n)(iC:ys.all (fits ti)=true)(hn:n*ti.size<=2^24)(Ip:n<=maxLen)
 (hr:Mv.runs σ [.make M d (.list .own ti.size ys)]=some σ'):Good N V w0 S0 σ' a d ((Instr.buildSlice t n (ps.map fun(i,x)=>(i,a.eval x))).run P w):=by
 have hgx:dX ((ps.toList.map (·.2)).map (resolve σ))=some (ys,M):=by rw[List.map_map];exact hg
 obtain⟨z,hz,TK,Vm,hz4⟩:=xZ ga w;have hlen:ps.size=n:=by have:=congrArg List.length YW;simpa using this
 have hI:=h;obtain⟨S,F,hc,-⟩:=h;obtain⟨Fy,g1,g2,g3⟩:=jM hc _ L4 hgx;have ct:=Cells.Bv g1 iC;have Vp:=Cells.length g1;simp only[List.length_map,Array.length_toList]at Vp;have abq:(ps.map fun(i,x)=>(i,a.eval x)).toList=(List.range' 0 ((ps.toList.map (·.2)).map a.eval).length).zip ((ps.toList.map (·.2)).map a.eval):=by have:=vR ps.toList a.eval;rw[YW]at this;simp only[List.length_map,Array.length_toList,hlen];rw[<-List.range_eq_range'];simpa[List.map_map,Function.comp_def]using this.symm
 have bj:=Cells.wI _ ct;simp only[List.length_map,Array.length_toList,hlen]at bj;have mL:∀base:Array Value,base.size=n*ti.size->Instr.fill (fun i=>some (i*ti.size,ti.size)) base (ps.map fun(i,x)=>(i,a.eval x)).toList=some (((ps.toList.map (·.2)).map a.eval).flatMap (·.cells.toList)).toArray:=by intro base hb;rw[abq,zw ti.size _ 0 base ct (by simp[hlen,hb])];simp only[Nat.zero_mul,List.take_zero,List.nil_append,Nat.zero_add,List.length_map,Array.length_toList,hlen];rw[List.drop_eq_nil_of_le (by simp[hb]),List.append_nil]
 obtain⟨i,u,z',hi1,Mb,YY,hi4,-⟩:=iw ga;refine⟨.slice (some ⟨w.heap.size,0,none⟩) ys.length n,_,?_,BR (e:=e) hI hd hr (by omega) Ip (c:=n) (cs:=(((ps.toList.map (·.2)).map a.eval).flatMap (·.cells.toList)).toArray) (by simpa using bj) fun S' F' bT=>?_⟩
 ·have hu:=gB he;unfold Instr.buildSlice;simp only[Sem.run_bind,run_underlying hu,Result.andThen_ok,cY ga];rw[if_neg (by omega)];by_cases h0:n*ti.size=0
  ·simp only[h0,if_true,Sem.run_bind,Sem.run_pure,Result.andThen_ok];have:=mL ((Array.range 0).map ((#[]:Array Value)[·%(#[]:Array Value).size]!)) (by simp[h0]);simp only[this];simp[newRow];omega
  simp only[h0,if_false,Sem.run_bind,hz,Sem.run_pure,Result.andThen_ok];have:=mL ((Array.range (n*ti.size)).map (z.cells[·%z.cells.size]!)) (by simp);simp only[this];simp[newRow];omega
 obtain⟨Fy',Pl,Pk,g3'⟩:=jM bT _ L4 hgx;refine⟨Fy',?_,Pk,g3'⟩;have:=Cells.XC Pl iC;rw[List.toList_toArray,List.take_of_length_le (by rw[bj];exact Nat.mul_le_mul_right _ (by omega))];exact this
theorem nr(z:Array Value):∀n,(madeCells z (n*z.size)).toList=(List.replicate n z.toList).flatten
 |0=>by simp[madeCells]
 |n+1=>by
  rw[List.replicate_succ,List.flatten_cons,<-nr z n];simp only[madeCells,Array.toList_map,Array.toList_range];rw[show(n+1)*z.size=z.size+n*z.size by rw[Nat.add_mul];omega,List.range_add,List.map_append,List.map_map]
  congr 1
  ·apply List.ext_getElem?;intro j;simp only[List.getElem?_map,Array.getElem?_toList];by_cases hj:j<z.size
   ·rw[List.getElem?_range hj,Array.getElem?_eq_getElem hj];simp[Nat.mod_eq_of_lt hj,hj]
   rw[List.getElem?_eq_none (by simp;omega),Array.getElem?_eq_none (by omega)];rfl
  apply List.map_congr_left;intro i _;simp[Function.comp]
theorem rm{x:AV}{z:Value}{sz:Nat}(h:Rel w S x z [])(hs:z.cells.size=sz):∀n,bU w S sz (List.replicate n x) (List.replicate n z.cells.toList).flatten []
 |0=>by simp[bU]
 |n+1=>by simp only[List.replicate_succ,bU,List.flatten_cons];exact⟨z,_,[],[],rfl,rfl,hs,h,rm h hs n⟩
theorem w8{d t e:Nat}(h:Inv N V w0 S0 σ a w)(hd:d<N)(l c:Operand)(hl:aE l=true)(Pa:aE c=true){ti:TI}(he:cG P t=some e)(ga:bE P e=some ti)
 {k k':IntKind}{x y:Int}(h1:(resolve σ l).cont=some (.v (.int k x)))(h2:(resolve σ c).cont=some (.v (.int k' y)))(hb:0<=x/\x<=y/\y*ti.bytes<=140737488355328/\y<=maxLen/\0<ti.size)
 (hr:Mv.runs σ [.make [] d (.list .own ti.size (List.replicate x.toNat ti.zero))]=some σ'):Good N V w0 S0 σ' a d ((Instr.makeSlice t (a.eval l) (a.eval c)).run P w):=by
 obtain⟨z,hz,TK,Vm,hz4⟩:=xZ ga w;obtain⟨i,u,z',hi1,Mb,YY,hi4,hi5,hi6,hi7⟩:=iw ga;have hu:=gB he;have hI:=h;obtain⟨S,F,hc,-⟩:=h;rw[cv hc l hl h1,cv hc c Pa h2];have Vl:z'=z:=by
  have:(zeroValue e).run P w=.ok z' w:=by simp[zeroValue,typeInfo,hi1,YY]
  rw[hz]at this;simpa using this.symm
 subst Vl;have bp:=run_make (P:=P) w t e i z' hu hi1 YY k k' x y hb.1 hb.2.1 (by rw[<-hi5,Int.mul_comm];have:=hb.2.2.1;omega) (by have:=hb.2.2.2.1;simp[maxLen]at this;omega);have Ip:y.toNat<=maxLen:=by have:=hb.2.2.2.1;omega
 have ct:(madeCells z'.cells (y.toNat*i.size)).size=y.toNat*ti.size:=by rw[size_madeCells,hi4]
 refine⟨_,_,bp,?_⟩;have key:=BR (e:=e) hI hd hr (cs:=madeCells z'.cells (y.toNat*i.size)) (c:=y.toNat) (by simp;omega) Ip ct fun S' F' bT=>⟨[],?_,by simp,by simp⟩
 ·simpa using key
 have eH:Rel w S' ti.zero z' []:=by rw[TK];exact fE w S' z' hz4
 have:=rm (S:=S') (w:=w) eH Vm x.toNat;have hy:y.toNat=x.toNat+(y.toNat-x.toNat):=by omega
 rw[<-hi4,<-Vm,nr,hy,<-List.replicate_append_replicate,List.flatten_append];rw[List.take_append_of_le_length (by simp[Vm]),List.take_of_length_le (by simp[Vm])];exact Vm▸this
theorem LL{d t ty:Nat}{ts:List TypeId}(h:Inv N V w0 S0 σ a w)(hd:d<N)(x:Operand)(hx:aE x=true){ms:List Mv}(hm:iF P d .len (t::ts) [resolve σ x]=some ms)(hr:Mv.runs σ ms=some σ'):
 Good N V w0 S0 σ' a d ((Builtin.len_ (t::ts).toArray ty #[a.eval x]).run P w):=by
 obtain⟨S,F,hc,-⟩:=id h;simp only[iF]at hm;split at hm
 ·rename_i s rT;split at hm
  ·rename_i hu;simp only[Option.some.injEq]at hm;subst hm;refine dh (z:=.int .i64 s.size) h hd hr ?_ (fun S F _=>by simp[Rel,scalar]);rw[cv hc x hx rT];simp[Builtin.len_,run_underlying hu,goInt]
  simp at hm
 ·rename_i f sz xs rT;split at hm
  ·rename_i e hu;simp only[Option.some.injEq]at hm;subst hm;refine dh (z:=.int .i64 xs.length) h hd hr ?_ (fun S F _=>by simp[Rel,scalar]);obtain⟨F1,h1,-⟩:=aM hc x hx rT;obtain⟨ad,cap,hz,-⟩:=h1.iz;rw[hz];simp[Builtin.len_,run_underlying hu,goInt]
  simp at hm
 simp at hm
theorem LF{d ty:Nat}{ts:List TypeId}(h:Inv N V w0 S0 σ a w)(hd:d<N)(x y:Operand)(hx:aE x=true)(hy:aE y=true){ms:List Mv}(hm:iF P d .min ts [resolve σ x,resolve σ y]=some ms)(hr:Mv.runs σ ms=some σ'):
 Good N V w0 S0 σ' a d ((Builtin.min_ ts.toArray ty #[a.eval x,a.eval y]).run P w):=by
 obtain⟨S,F,hc,-⟩:=id h;simp only[iF]at hm;split at hm
 ·rename_i k u k' v h1 h2;split at hm
  ·rename_i hk;subst hk;simp only[Option.some.injEq]at hm;subst hm;refine dh (z:=.int k (min u v)) h hd hr ?_ (fun S F _=>by simp[Rel,scalar]);rw[cv hc x hx h1,cv hc y hy h2,run_min_int2]
   congr 2
   split<;>omega
  simp at hm
 simp at hm
theorem LH{d ty:Nat}{ts:List TypeId}(h:Inv N V w0 S0 σ a w)(hd:d<N)(x y:Operand)(hx:aE x=true)(hy:aE y=true){ms:List Mv}(hm:iF P d .max ts [resolve σ x,resolve σ y]=some ms)(hr:Mv.runs σ ms=some σ'):
 Good N V w0 S0 σ' a d ((Builtin.max_ ts.toArray ty #[a.eval x,a.eval y]).run P w):=by
 obtain⟨S,F,hc,-⟩:=id h;simp only[iF]at hm;split at hm
 ·rename_i k u k' v h1 h2;split at hm
  ·rename_i hk;subst hk;simp only[Option.some.injEq]at hm;subst hm;refine dh (z:=.int k (max u v)) h hd hr ?_ (fun S F _=>by simp[Rel,scalar]);rw[cv hc x hx h1,cv hc y hy h2,run_max_int2]
   congr 2
   split<;>omega
  simp at hm
 simp at hm
theorem wu(h:aK S B σ (tv V a) w F):∀(xs:List Operand),xs.all aE=true->∀{ys:List AV},fk (xs.map (resolve σ))=some ys->
 ∀{S':Nat->Prop},(∀b,S b\/(∃i,b∈F i)->S' b)->Cells w S' false ys (xs.map a.eval) []
 |[],_,ys,hl,S',_=>by simp only[List.map_nil,fk,Option.some.injEq]at hl;subst hl;simp[Cells]
 |x::xs,hf,ys,hl,S',hS=>by
  simp only[List.all_cons,Bool.and_eq_true]at hf;simp only[List.map_cons,fk]at hl;split at hl
  ·rename_i y KL h1 h2;simp only[Option.some.injEq]at hl;subst hl;unfold RK at h1;split at h1
   ·rename_i y0 rT;simp only[Option.some.injEq]at h1;subst h1;obtain⟨F1,k1,k2⟩:=aM h x hf.1 rT;simp only[List.map_cons,Cells];exact⟨_,_,[],[],rfl,rfl,by simp,Rel.share (fun b hb=>hS b (.inl hb)) _ k1 (fun b hb=>hS b (.inr (k2.1 b hb))),wu h xs hf.2 h2 hS⟩
   simp at h1
  simp at hl
end
section
variable{P:Program}{N:Nat}{w0 w w':World}{V:Hid}{S S0 S':Nat->Prop}{B:Nat->Prop}{σ σ':St}{a:Act}{F:Nat->List Nat}
mutual
theorem Rel.Mu:∀(x:AV){y z:Value}{F F':List Nat},Rel w S x y F->Rel w S' x z F'->y.cells=z.cells->F=F'
 |.v _,y,z,F,F',h,k,_=>by simp only[Rel]at h k;rw[h.2.2,k.2.2]
 |.list .nil _ _,y,z,F,F',h,k,_=>by simp only[Rel]at h k;rw[h.2.2,k.2.2]
 |.list .shr _ _,y,z,F,F',h,k,_=>by simp only[Rel]at h k;rcases h with⟨-,-,h⟩|⟨_,_,_,_,_,_,_,_,_,_,h⟩<;>rcases k with⟨-,-,k⟩|⟨_,_,_,_,_,_,_,_,_,_,k⟩<;>rw[h,k]
 |.list .own sz xs,y,z,F,F',h,k,e=>by
  simp only[Rel]at h k;rcases h with⟨rfl,rfl,rfl⟩|⟨b,cap,cs,G,rfl,h1,-,-,-,h2,rfl⟩<;>rcases k with⟨k0,rfl,rfl⟩|⟨b',ZQ,cs',G',rfl,k1,-,-,-,k2,rfl⟩
  ·rfl
  ·simp[Value.cells]at e
  ·simp[Value.cells]at e
  simp[Value.cells]at e;obtain⟨rfl,rfl⟩:=e;rw[h1]at k1;simp only[Option.some.injEq,Prod.mk.injEq,and_true]at k1;subst k1;rw[bU.Mu sz xs h2 k2]
 |.box own x,y,z,F,F',h,k,e=>by
  simp only[Rel]at h k;obtain⟨b,cs,fz,G,u,rfl,h1,h2,h3,h4⟩:=h;obtain⟨b',cs',fz',G',u',rfl,k1,k2,k3,k4⟩:=k;simp[Value.cells]at e;subst e;rw[h1]at k1;simp only[Option.some.injEq,Prod.mk.injEq]at k1;obtain⟨rfl,rfl⟩:=k1;have:=Rel.Mu x h2 k2 (by rw[h3,k3]);cases own
  ·simp only[Bool.false_eq_true,if_false]at h4 k4;rw[h4.2.2,k4.2.2]
  simp only[if_true]at h4 k4;rw[h4.2,k4.2,this]
 |.agg xs,y,z,F,F',h,k,e=>by simp only[Rel]at h k;obtain⟨cs,rfl,h⟩:=h;obtain⟨cs',rfl,k⟩:=k;simp only[Value.cells]at e;subst e;exact Cells.Mu xs h k
 |.bC xs,y,z,F,F',h,k,e=>by simp only[Rel]at h k;obtain⟨cs,rfl,h⟩:=h;obtain⟨cs',rfl,k⟩:=k;simp[Value.cells]at e;subst e;exact Cells.Mu xs h k
 |.fn f p q,y,z,F,F',h,k,e=>by simp only[Rel]at h k;obtain⟨a,c,F1,F2,rfl,h1,h2,rfl⟩:=h;obtain⟨a',c',vQ,F2',rfl,k1,k2,rfl⟩:=k;simp[Value.cells]at e;obtain⟨rfl,rfl⟩:=e;rw[Cells.Mu p h1 k1,Cells.Mu q h2 k2]
 |.bg ..,_,_,_,_,h,_,_=>by simp[Rel]at h
 |.pv _,_,_,_,_,h,k,_=>by simp only[Rel]at h k;rw[h.2,k.2]
 |.abs _,_,_,_,_,h,_,_=>by simp[Rel]at h
 |.dY ..,_,_,_,_,h,_,_=>by simp[Rel]at h
 |.mp K,y,z,F,F',h,k,e=>by simp only[Rel]at h k;obtain⟨b,o,rfl,-,-,rfl⟩:=h;obtain⟨b',o',rfl,-,-,rfl⟩:=k;simp[Value.cells]at e;rw[e]
 |.ptr ..,_,_,_,_,h,_,_=>by simp[Rel]at h
 |.hole,y,z,F,F',h,k,_=>by simp only[Rel]at h k;rw[h.2,k.2]
 |.dead,y,z,F,F',h,k,_=>by simp only[Rel]at h k;rw[h,k]
theorem Cells.Mu:∀(xs:List AV){one abi:Bool}{l:List Value}{F F':List Nat},Cells w S one xs l F->Cells w S' abi xs l F'->F=F'
 |[],_,_,l,F,F',h,k=>by simp only[Cells]at h k;rw[h.2,k.2]
 |x::xs,_,_,l,F,F',h,k=>by simp only[Cells]at h k;obtain⟨y,l1,F1,F2,rfl,rfl,-,h3,h4⟩:=h;obtain⟨y',Qy,vQ,F2',e,rfl,-,k3,k4⟩:=k;simp only[List.cons.injEq]at e;obtain⟨rfl,rfl⟩:=e;rw[Rel.Mu x h3 k3 rfl,Cells.Mu xs h4 k4]
theorem bU.Mu(sz:Nat):∀(xs:List AV){l:List Value}{F F':List Nat},bU w S sz xs l F->bU w S' sz xs l F'->F=F'
 |[],l,F,F',h,k=>by simp only[bU]at h k;rw[h.2,k.2]
 |x::xs,l,F,F',h,k=>by simp only[bU]at h k;obtain⟨y,l1,F1,F2,rfl,rfl,h2,h3,h4⟩:=h;obtain⟨y',Qy,vQ,F2',e,rfl,k2,k3,k4⟩:=k;obtain⟨e1,rfl⟩:=List.append_inj e (by simp[h2,k2]);rw[Rel.Mu x h3 k3 (by simpa using e1),bU.Mu sz xs h4 k4]
end
theorem kF(h:aK S B σ (tv V a) w F){S1:Nat->Prop}(hS:∀b,S b->S1 b):∀(xs:List Operand),xs.all aE=true->∀{ys:List AV},fk (xs.map (resolve σ))=some ys->
 (∀m∈shares (xs.map (resolve σ)),∃r p,m=.share r p/\∀y z L F1,a6 (σ r).av p=some y->loc w (.val (tv V a r)) p=some L->holds w L z->(∀ad,L=.addr ad->z.oneCell'=true)->Rel w S y z F1->∀b∈F1,S1 b)->
 Cells w S1 false ys (xs.map a.eval) []
 |[],_,ys,hl,_=>by simp only[List.map_nil,fk,Option.some.injEq]at hl;subst hl;simp[Cells]
 |x::xs,hf,ys,hl,hm=>by
  simp only[List.all_cons,Bool.and_eq_true]at hf;simp only[List.map_cons,fk]at hl;split at hl
  ·rename_i y KL h1 h2;simp only[Option.some.injEq]at hl;subst hl;unfold RK at h1;split at h1
   ·rename_i y0 rT;simp only[Option.some.injEq]at h1;subst h1;obtain⟨F1,k1,k2,-⟩:=aM h x hf.1 rT;simp only[List.map_cons,Cells];simp only[List.map_cons,shares,rT]at hm;have Yx:=kF h hS xs hf.2 h2 (fun m TS=>hm m (by
     split
     ·exact TS
     split<;>exact List.mem_cons_of_mem _ TS))
    refine⟨_,_,[],[],rfl,rfl,by simp,Rel.share hS _ k1 (fun b hb=>?_),Yx⟩;by_cases fS:y0.az=true
    ·rw[Rel.az _ k1 fS]at hb;simp at hb
    rw[if_neg fS]at hm;split at hm
    ·rename_i r g1 g2 p hp;obtain⟨r',p',e,hm⟩:=hm _ (List.mem_cons_self ..);simp only[Mv.share.injEq]at e;obtain⟨rfl,rfl⟩:=e;obtain⟨p1,-,-,-,-,-,L,l1,l2,l3⟩:=gD h x hf.1 rT hp;exact hm _ _ L F1 p1 l1 l2 l3 k1 b hb
    obtain⟨r',p',e,-⟩:=hm _ (List.mem_cons_self ..);simp at e
   simp at h1
  simp at hl
theorem Below.row{w w':World}{n:Nat}(h:Below n w w'){b:Nat}(hb:b<n):w'.heap[b]?=w.heap[b]?:=h.block b hb
theorem aK.after(h:aK S B σ (tv V a) w F)(hb:Below w.heap.size w w')(h1:∀b,S b->S' b)(h2:∀b,S' b->S b\/w.heap.size<=b)(h3:∀b,S' b->b<w'.heap.size):aK S' B σ (tv V a) w' F:=by
 have cB:∀b,(S b\/∃i,b∈F i)->w'.heap[b]?=w.heap[b]?:=fun b dr=>Below.row hb (by rcases dr with dr|⟨i,dr⟩;exact h.shr b dr;exact(h.own i b dr).2.1);refine h.step (S':=S') ⟨fun r=>Nat.le_refl _,fun r=>Nat.le_refl _,fun r _=>rfl,fun r _ _=>⟨fun p y hy=>⟨y,hy⟩,fun b dr=>cB b (dr.elim .inl fun dr=>.inr ⟨r,dr⟩)⟩⟩ h1
  (fun i=>.inl ⟨rfl,rfl,rfl,fun b dr=>cB b (dr.elim .inl fun dr=>.inr ⟨i,dr⟩)⟩) h.nodup h.cx (fun i b dr=>?_) h3
 obtain⟨k1,k2,k3⟩:=h.own i b dr;exact⟨k1,Nat.lt_of_lt_of_le k2 hb.size,fun hs=>(h2 b hs).elim k3 (fun hh=>by omega)⟩
theorem Inv.end{d:Option Nat}{y:AV}{z:Value}{Fy:List Nat}(hd:∀x,d=some x->x<N)(hN:a.tmps.size=N)(ig:a.defers=V.df)(hc:aK S (bW V w0) σ (tv V a) w F)
 (hb:Below w.heap.size w w')(cU:jF V w0 w)(h1:∀b,S b->S' b)(h2:∀b,S' b->S b\/w.heap.size<=b)(h3:∀b,S' b->b<w'.heap.size)
 (h4:∀b,S0 b->S b)(h5:∀b,S b->S0 b\/bW V w0 b)(hr:Rel w' S' y z Fy)(hn:Fy.Nodup)(hF:∀b∈Fy,w.heap.size<=b/\b<w'.heap.size/\¬S' b)
 (bp:Mv.runs σ (cw d y [])=some σ'):Inv N V w0 S0 σ' (a.put d z) w':=by
 have bT:=hc.after hb h1 h2 h3;have Sh:=cU.Jq hb;have ct:=cU.size;have Sn:(∀b,S0 b->S' b)/\(∀b,S' b->S0 b\/bW V w0 b):=⟨fun b hb=>h1 b (h4 b hb),fun b hb=>(h2 b hb).elim (h5 b) (fun h=>.inr (cU.new b h))⟩;cases d with
 |none=>simp only[cw,Mv.runs,Option.some.injEq]at bp;subst bp;exact⟨S',F,bT,hN,ig,Sn.1,Sn.2,Sh⟩
 |some d=>
  simp only[cw,List.nil_append,iJ,Option.some.injEq]at bp;subst bp;refine⟨S',fun i=>if i=d then Fy else if i∈([]:List Nat)then[]else F i,?_,by rw[size_put];exact hN,by rw[dV];exact ig,Sn.1,Sn.2,Sh⟩;rw[ll (by rw[hN];exact hd d rfl)];have dz:∀i,∀b∈F i,b<w.heap.size:=fun i b hb=>(hc.own i b hb).2.1;have cR:∀i,∀b∈F i,b∉Fy:=fun i b hb dr=>by have:=dz i b hb;have:=(hF b dr).1;omega
  refine bT.step (w':=w') (S':=S') ⟨fun r=>?_,fun r=>?_,fun r pc=>?_,fun r pc _=>?_⟩ (fun _ h=>h) (fun i=>?_) (fun i=>?_) (fun i j fX b hb=>?_) (fun i b hb=>?_) h3
  ·unfold made;split
   ·rename_i e;subst e;simp
   simp
  ·unfold made;split
   ·rename_i e;subst e;simp
   simp
  ·unfold made at pc;split at pc
   ·rename_i e;subst e;simp at pc
   rename_i e;rw[ab _ _ e]
  ·unfold made at pc⊢;split at pc
   ·rename_i e;subst e;simp at pc
   rename_i e;simp only[e,if_false,List.not_mem_nil];exact⟨fun p y hy=>⟨y,hy⟩,fun _ _=>trivial⟩
  ·by_cases e:i=d
   ·subst e;right;rw[ai.ar (by unfold made;simp only[if_true];exact hr.plain)];simp only[made,if_true,ak];exact hr
   left;simp only[made,e,if_false,List.not_mem_nil];exact⟨trivial,ab _ _ e,trivial,fun _ _=>trivial⟩
  ·show(if i=d then Fy else if i∈([]:List Nat)then[]else F i).Nodup;split
   ·exact hn
   simp only[List.not_mem_nil,if_false];exact hc.nodup i
  ·simp only[List.not_mem_nil,if_false]at hb⊢;split at hb
   ·split
    ·omega
    exact fun hj=>cR j b hj hb
   split
   ·exact cR i b hb
   exact hc.cx i j fX b hb
  simp only[List.not_mem_nil,if_false]at hb;split at hb
  ·have:=hF b hb;exact⟨cU.new b (by omega),this.2.1,this.2.2⟩
  exact bT.own i b hb
theorem v7(h:aK S B σ (tv V a) w F):∀(xs:List Operand),xs.all aE=true->∀m∈shares (xs.map (resolve σ)),m=.take 0 0 []\/∃r p,m=.share r p/\(σ r).av.plain=true
 |[],_,m,hm=>by simp[shares]at hm
 |x::xs,hf,m,hm=>by
  simp only[List.all_cons,Bool.and_eq_true]at hf;have ih:=v7 h xs hf.2 m;simp only[List.map_cons,shares]at hm;split at hm
  ·rename_i y rT;split at hm
   ·exact ih hm
   split at hm
   ·rename_i r g1 g2 p hp;obtain⟨-,-,-,-,-,p6,-⟩:=gD h x hf.1 rT hp;rcases List.mem_cons.1 hm with rfl|hm
    ·exact .inr ⟨r,p,rfl,p6⟩
    exact ih hm
   rcases List.mem_cons.1 hm with rfl|hm
   ·exact .inl rfl
   exact ih hm
  rcases List.mem_cons.1 hm with rfl|hm
  ·exact .inl rfl
  exact ih hm
theorem Gz(d:Option Nat)(res:AV)(ms:List Mv):cw d res ms=ms++cw d res []:=by cases d<;>simp[cw]
theorem wa(σ:St):∀(l m:List Mv),Mv.runs σ (l++m)=(Mv.runs σ l).bind (Mv.runs · m)
 |[],m=>rfl
 |x::l,m=>by
  simp only[List.cons_append,Mv.runs];cases x.run σ with
  |none=>rfl
  |some σ1=>exact wa σ1 l m
theorem Aj{d:Option Nat}(hG:iV P V w0)(h:Inv N V w0 S0 σ a w)(hd:∀x,d=some x->x<N)(f:Operand)(hf:aE f=true)(aas:List Operand)(has:aas.all aE=true){res:AV}{ms:List Mv}{kn:List Uq}
 (hm:Ak d (resolve σ f) (aas.map (resolve σ)) res=some (ms,kn))(hr:Mv.runs σ ms=some σ')(hs:∀o∈kn,Sound P o.1 o.2.1 o.2.2):
 ∃g first captured,a.eval f=.func (.func g) first captured/\qg P g (first++(aas.map a.eval).toArray++captured) w fun v w'=>Inv N V w0 S0 σ' (a.put d v) w':=by
 obtain⟨S,F,hc,hN,ig,jl,gw,cU⟩:=h;unfold Ak at hm;split at hm
 ·rename_i g first captured gL
  split at hm
  ·rename_i fS;simp only[Bool.and_eq_true]at fS;split at hm
   ·rename_i ys hl;obtain⟨Ff,q1,-⟩:=aM hc f hf gL;simp only[Rel]at q1;obtain⟨af,cf,F1,F2,qe,qa,qc,-⟩:=q1;have Xx:=Cells.az _ qa fS.1;have Ua:=Cells.az _ qc fS.2;subst Xx Ua;refine⟨g,af,cf,qe,?_⟩;have main:∀(S1:Nat->Prop),(∀b,S b->S1 b)->(∀b,S1 b->b<w.heap.size)->Cells w S1 false ys (aas.map a.eval) []->Sound P g (first++ys++captured) res->
     qg P g (af++(aas.map a.eval).toArray++cf) w fun v w'=>∃S' F',Below w.heap.size w w'/\(∀b,S1 b->S' b)/\(∀b,S' b->S1 b\/w.heap.size<=b)/\(∀b,S' b->b<w'.heap.size)/\
      Rel w' S' res v F'/\F'.Nodup/\∀b∈F',w.heap.size<=b/\b<w'.heap.size/\¬S' b:=by
     intro S1 hS hS1 mC yU;have mL:Cells w S1 false (first++ys++captured) (af.toList++aas.map a.eval++cf.toList) ([]++[]++[]):=Cells.append (Cells.append (Cells.mono hS _ qa) mC) (Cells.mono hS _ qc)
     have:=yU w S1 _ (hG.H8 cU) hS1 (by simpa using mL);have e:(af.toList++(aas.map a.eval++cf.toList)).toArray=af++(aas.map a.eval).toArray++cf:=by apply Array.ext';simp
     rw[e]at this;exact this
    split at hm
    ·rename_i Ed;split at hm
     ·rename_i uX;simp only[Option.some.injEq,Prod.mk.injEq]at hm;obtain⟨rfl,rfl⟩:=hm;have mC:=kF hc (S1:=S) (fun _ h=>h) aas has hl (by rw[uX];simp);have:=main S (fun _ h=>h) hc.shr mC (hs (g,first++ys++captured,res) (by simp));intro rd o a' next Q hK
      refine this rd o a' next Q fun v w'⟨S',F',k1,k2,k3,k4,k5,k6,k7⟩=>hK v w' ?_
      exact Inv.end hd hN ig hc k1 cU k2 k3 k4 jl gw k5 k6 k7 hr
     ·rename_i m qN;simp only[Option.some.injEq,Prod.mk.injEq]at hm;obtain⟨rfl,rfl⟩:=hm;rw[Gz,wa]at hr;obtain⟨σ1,mU,xA⟩:=Option.bind_eq_some_iff.1 hr;have VD:∃r p,m=.share r p/\(σ r).av.plain=true:=by
       rcases v7 hc aas has m (by rw[qN];simp)with rfl|h
       ·simp[Mv.runs,Mv.run]at mU
       exact h
      obtain⟨r,p,rfl,gJ⟩:=VD;simp only[Mv.runs,Mv.run]at mU;split at mU
      ·rename_i aa2 L3;simp only[Option.some.injEq]at mU;subst mU;split at L3
       ·rename_i y hg;split at L3
        ·rename_i av' jk;simp only[Option.some.injEq]at L3;subst L3;obtain⟨L,z,G,F',k1,k2,k3,k4,k5⟩:=hc.share r p gJ hg jk;have dz:∀b∈G,bW V w0 b:=fun b hb=>(hc.own r b (k5 b hb)).1;have mC:=kF hc (S1:=fun b=>S b\/b∈G) (fun _ h=>.inl h) aas has hl (by
          rw[qN];intro m hm;simp only[List.mem_singleton]at hm;subst hm;refine⟨r,p,rfl,fun y' z' L' F1 e1 e2 e3 e4 e5 b hb=>?_⟩;rw[hg]at e1;simp only[Option.some.injEq]at e1;subst e1;rw[k1]at e2;simp only[Option.some.injEq]at e2;subst e2;have hz:z'=z:=by
           cases L with
           |val q=>simp only[holds]at k2 e3;rw[k2,e3]
           |addr ad=>
            have ho:=e4 ad rfl;have YD:z.oneCell'=true\/F1=[]:=by
             cases y with
             |agg xs=>simp only[Rel]at e5;obtain⟨cs,rfl,-⟩:=e5;simp[Value.oneCell']at ho
             |bC xs=>simp only[Rel]at e5;obtain⟨cs,rfl,-⟩:=e5;simp[Value.oneCell']at ho
             |dead=>simp only[Rel]at e5;exact .inr e5
             |v x=>exact .inl (k3.one rfl)
             |list f sz xs=>exact .inl (k3.one rfl)
             |box o x=>exact .inl (k3.one rfl)
             |fn f x y=>exact .inl (k3.one rfl)
             |hole=>exact .inl (k3.one rfl)
             |bg=>simp[Rel]at e5
             |ptr=>simp[Rel]at e5
             |pv C=>simp only[Rel]at e5;exact .inr e5.2
             |abs J=>simp[Rel]at e5
             |dY g aW=>simp[Rel]at e5
             |mp K=>have k3':=k3;simp only[Rel]at k3';obtain⟨b0,o0,h0,-⟩:=k3';exact .inl (by rw[h0];rfl)
            rcases YD with YD|YD
            ·have e1:=At.cell k2 (bS YD);have e2:=At.cell e3 (bS ho);rw[e1]at e2;simpa using e2.symm
            subst YD;simp at hb
          subst hz;rw[Rel.Mu _ e5 k3 rfl]at hb;exact .inr hb)
         have:=main (fun b=>S b\/b∈G) (fun _ h=>.inl h) k4.shr mC (hs (g,first++ys++captured,res) (by simp));intro rd o a' next Q hK
         refine this rd o a' next Q fun v w'⟨S',MN,l1,l2,l3,l4,l5,l6,l7⟩=>hK v w' ?_
         exact Inv.end hd hN ig k4 l1 cU l2 l3 l4 (fun b hb=>.inl (jl b hb)) (fun b hb=>hb.elim (gw b) (fun hb=>.inr (dz b hb))) l5 l6 l7 xA
        simp at L3
       simp at L3
      simp at mU
     simp at hm
    rename_i Ed;simp only[Option.some.injEq,Prod.mk.injEq]at hm;obtain⟨rfl,rfl⟩:=hm;have mC:=wu hc aas has hl (S':=fun b=>S b\/∃i,b∈F i) (fun b hb=>hb);have:=main (fun b=>S b\/∃i,b∈F i) (fun _ h=>.inl h) (fun b hb=>by rcases hb with hb|⟨i,hb⟩;exact hc.shr b hb;exact(hc.own i b hb).2.1) mC (hs (g,first++ys++captured,res) (by simp));intro rd o a' next Q hK
    refine this rd o a' next Q fun v w'⟨S',F',k1,k2,k3,k4,k5,k6,k7⟩=>hK v w' ?_
    have gg:res.bh=true:=by simpa using Ed
    have ct:=hc.shr;exact Inv.end (S':=S) hd hN ig hc k1 cU (fun _ h=>h) (fun _ h=>.inl h) (fun b hb=>Nat.lt_of_lt_of_le (hc.shr b hb) k1.size) jl gw (Rel.bh res k5 gg) k6
     (fun b hb=>⟨(k7 b hb).1,(k7 b hb).2.1,fun hS=>by have:=hc.shr b hS;have:=(k7 b hb).1;omega⟩) hr
   simp at hm
  simp at hm
 simp at hm
end
def fO(N:Nat)(o:Oper):Bool:=
 (match o.dst with|some d=>decide (d<N)|none=>true)&&
 match o.op with
 |.move x|.assign x|.box _ x|.nilCheck x|.unOp _ _ x|.convert _ _ x|.field _ x _|.extract x _=>aE x
 |.store _ x y=>aE x&&aE y
 |.load _ x|.fieldAddr _ x _=>aE x
 |.pick c x y=>aE c&&aE x&&aE y
 |.build _ ps|.buildSlice _ _ ps=>(ps.toList.map (·.2)).all aE
 |.binOp _ _ x y _|.makeSlice _ x y|.indexAddr _ x y|.index _ x y=>aE x&&aE y
 |.makeFunc _ p q=>p.toList.all aE&&q.toList.all aE
 |.slice _ x l h m=>aE x&&l.all aE&&h.all aE&&m.all aE&&(m.isNone||h.isSome)
 |.call c=>c.args.toList.all aE&&(match c.callee with|.value f=>aE f|_=>true)
 |.lookup _ m x _=>aE m&&aE x
 |_=>true
section
variable{P:Program}{N:Nat}{w0 w w':World}{V:Hid}{S S0 S':Nat->Prop}{B:Nat->Prop}{σ σ':St}{a:Act}{F:Nat->List Nat}{K:Act->World->Prop}{Q:Exit->Act->World->Prop}
theorem oT{o:Oper}{d:Nat}(hd:o.dst=some d){s:Sem Value}(he:execOp a.eval o=(do pure (.value (←s))))(hg:Good N V w0 S0 σ' a d (s.run P w))(hK:∀a' w',Inv N V w0 S0 σ' a' w'->K a' w'):Oper.QO V.rd P o a w K Q:=by
 obtain⟨v,w',hr,hi⟩:=hg;refine fY (v:=v) (w':=w') ?_ ?_
 ·rw[he];simp[hr]
 rw[hd];exact hK _ _ hi
theorem QN{o:Oper}{d:Nat}(hd:o.dst=some d){s:Sem Value}(he:(execOp a.eval o).run P w=(s.run P w).andThen fun v w'=>.ok (.value v) w')(hg:Good N V w0 S0 σ' a d (s.run P w))(hK:∀a' w',Inv N V w0 S0 σ' a' w'->K a' w'):Oper.QO V.rd P o a w K Q:=by
 obtain⟨v,w',hr,hi⟩:=hg;refine fY (v:=v) (w':=w') ?_ ?_
 ·rw[he,hr];rfl
 rw[hd];exact hK _ _ hi
theorem ck{m:Option (List Mv)}{ms:List Mv}{kn:List Uq}(h:dZ m=some (ms,kn)):m=some ms/\kn=[]:=by
 unfold dZ at h;split at h
 ·simp only[Option.some.injEq,Prod.mk.injEq]at h;obtain⟨rfl,rfl⟩:=h;exact⟨rfl,rfl⟩
 simp at h
theorem s9:∀{xs ys:List bo}{a b:List AV},fk xs=some a->fk ys=some b->fk (xs++ys)=some (a++b)
 |[],ys,a,b,h1,h2=>by simp only[fk,Option.some.injEq]at h1;subst h1;exact h2
 |x::xs,ys,a,b,h1,h2=>by
  simp only[fk]at h1;split at h1
  ·rename_i y a' e1 e2;simp only[Option.some.injEq]at h1;subst h1;simp only[List.cons_append,fk,e1,s9 e2 h2]
  simp at h1
theorem s8:∀{xs:List bo}{a:List AV},fk xs=some a->a.length=xs.length
 |[],a,h1=>by simp only[fk,Option.some.injEq]at h1;subst h1;rfl
 |x::xs,a,h1=>by
  simp only[fk]at h1;split at h1
  ·rename_i y a' e1 e2;simp only[Option.some.injEq]at h1;subst h1;simp[s8 e2]
  simp at h1
theorem nH{one:Bool}:∀{ap aq:List AV}{l m:List Value},ap.length=l.length->Cells w S one (ap++aq) (l++m) []->Cells w S one ap l []/\Cells w S one aq m []
 |[],aq,[],m,_,h=>⟨by simp[Cells],h⟩
 |[],aq,y::l,m,e,h=>by simp at e
 |x::ap,aq,[],m,e,h=>by simp at e
 |x::ap,aq,y::l,m,e,h=>by simp only[List.cons_append,Cells]at h⊢;obtain⟨y',l',F1,F2,e1,e2,h3,h4,h5⟩:=h;simp only[List.cons.injEq]at e1;obtain⟨rfl,rfl⟩:=e1;obtain⟨rfl,rfl⟩:=List.append_eq_nil_iff.1 e2.symm;obtain⟨k1,k2⟩:=nH (by simpa using e) h5;exact⟨⟨y,l,[],[],rfl,rfl,h3,h4,k1⟩,k2⟩
theorem WT{α:Type}{x:Array α}{a:α}(h:x.toList=[a]):x=#[a]:=by apply Array.ext';simpa using h
theorem ado{α:Type}{x:Array α}{a b:α}(h:x.toList=[a,b]):x=#[a,b]:=by apply Array.ext';simpa using h
theorem MF(h:Inv N V w0 S0 σ a w){o:Oper}{d:Nat}(hd:d<N)(dy:o.dst=some d){c:Call}(bH:o.op=.call c){b:Builtin}(hc:c.callee=.builtin b)(bj:c.args.toList.all aE=true){ms:List Mv}
 (hm:iF P d b c.argTypes.toList (c.args.toList.map (resolve σ))=some ms)(hr:Mv.runs σ ms=some σ')(hK:∀a' w',Inv N V w0 S0 σ' a' w'->K a' w'):Oper.QO V.rd P o a w K Q:=by
 generalize TN:c.argTypes.toList=ts at hm;have RZ:c.argTypes=ts.toArray:=by rw[<-TN]
 cases hl:c.args.toList with
 |nil=>rw[hl]at hm;simp[iF]at hm
 |cons x rest=>
  rw[hl]at hm bj;simp only[List.all_cons,Bool.and_eq_true]at bj;cases rest with
  |nil=>
   have fb:=WT hl;cases b<;>try(simp[iF]at hm;done)
   cases ts with
   |nil=>simp[iF]at hm
   |cons t ts=>
    refine QN (s:=Builtin.len_ c.argTypes o.type #[a.eval x]) dy ?_ ?_ hK
    ·simp[execOp,bH,Go.resolve,hc,fb,invoke,builtin]
    rw[RZ];exact LL h hd x bj.1 hm hr
  |cons y rest=>
   simp only[List.all_cons,Bool.and_eq_true]at bj;cases rest with
   |nil=>
    have fb:=ado hl;cases b<;>try(simp[iF]at hm;done)
    ·cases ts with
     |nil=>simp[iF]at hm
     |cons t ts=>cases ts with
      |nil=>simp[iF]at hm
      |cons t' ts=>cases ts with
       |cons _ _=>simp[iF]at hm
       |nil=>
        simp only[iF,List.map_cons,List.map_nil]at hm;split at hm
        ·rename_i e2 he2;refine QN (s:=Builtin.append_ c.argTypes o.type #[a.eval x,a.eval y]) dy ?_ ?_ hK
         ·simp[execOp,bH,Go.resolve,hc,fb,invoke,builtin]
         rw[RZ];cases hte:cG P t with
         |none=>simp[jh,hte]at hm
         |some e=>rw[D5 (gB hte) (gB he2)];exact D6 h hd x y bj.1 bj.2.1 hm hr
        simp at hm
    ·refine QN (s:=Builtin.max_ c.argTypes o.type #[a.eval x,a.eval y]) dy ?_ ?_ hK
     ·simp[execOp,bH,Go.resolve,hc,fb,invoke,builtin]
     rw[RZ];exact LH h hd x y bj.1 bj.2.1 hm hr
    refine QN (s:=Builtin.min_ c.argTypes o.type #[a.eval x,a.eval y]) dy ?_ ?_ hK
    ·simp[execOp,bH,Go.resolve,hc,fb,invoke,builtin]
    rw[RZ];exact LF h hd x y bj.1 bj.2.1 hm hr
   |cons z rest=>cases b<;>simp[iF]at hm
theorem Ls(hG:iV P V w0)(h:Inv N V w0 S0 σ a w)(o:Oper)(bj:fO N o=true){res:AV}{ms:List Mv}{kn:List Uq}(hm:w6 P σ o res=some (ms,kn))(hr:Mv.runs σ ms=some σ')
 (hs:∀o∈kn,Sound P o.1 o.2.1 o.2.2)(hK:∀a' w',Inv N V w0 S0 σ' a' w'->K a' w'):Oper.QO V.rd P o a w K Q:=by
 unfold fO at bj;rw[Bool.and_eq_true]at bj;obtain⟨hd,bj⟩:=bj;unfold w6 at hm;split at hm
 ·rename_i dy;split at hm
  ·rename_i t x y bH;rw[bH]at bj;obtain⟨hO,rfl⟩:=ck hm;replace hm:=hO;obtain⟨w',h1,h2⟩:=EA h x y (Bool.and_eq_true_iff.1 bj).1 (Bool.and_eq_true_iff.1 bj).2 hm hr;refine Oper.nO (by simp[bH]) ?_;have:(execOp a.eval o).run P w=.ok .skip w':=by simp[execOp,bH,h1]
   rw[this];show K (a.put o.dst undef) w';rw[dy];exact hK _ _ h2
  ·rename_i c bH;rw[bH]at bj;split at hm
   ·rename_i f hc;simp only[hc,Bool.and_eq_true]at bj;obtain⟨g,p,q,e1,e2⟩:=Aj hG h (d:=none) (by simp) f bj.2 c.args.toList bj.1 hm hr hs;have hx:execOp a.eval o=callFunc g (p++(c.args.toList.map a.eval).toArray++q):=by
     have:(c.args.toList.map a.eval).toArray=c.args.map a.eval:=by apply Array.ext';simp
     simp only[execOp,bH,Go.resolve,hc,Deferred.ofValue,e1,this];rfl
    refine Oper.nO (by simp[bH]) ?_;rw[hx];refine e2 _ o a K Q fun v w' hi=>?_;rw[dy];exact hK _ _ hi
   simp at hm
  simp at hm
 rename_i d dy;simp only[dy,decide_eq_true_eq]at hd;split at hm
 ·rename_i x bH;rw[bH]at bj;obtain⟨hO,rfl⟩:=ck hm;replace hm:=hO;refine fY (v:=a.eval x) (w':=w) (by simp[execOp,bH]) ?_;rw[dy];exact hK _ _ (jD h hd x bj hm hr)
 ·rename_i x bH;rw[bH]at bj;obtain⟨S,F,gL,-⟩:=id h;split at hm
  ·rename_i o1 x1 rT;obtain⟨hO,rfl⟩:=ck hm;replace hm:=hO;obtain⟨F1,hR,-⟩:=aM gL x bj rT;simp only[Rel]at hR;obtain⟨b,cs,fz,F',z,e1,-⟩:=hR;refine fY (v:=a.eval x) (w':=w) (by simp[execOp,bH,e1]) ?_;rw[dy];exact hK _ _ (jD h hd x bj hm hr)
  ·rename_i g p q rT;obtain⟨hO,rfl⟩:=ck hm;replace hm:=hO;obtain⟨F1,hR,-⟩:=aM gL x bj rT;simp only[Rel]at hR;obtain⟨p',q',F1,F2,e1,-⟩:=hR;refine fY (v:=a.eval x) (w':=w) (by simp[execOp,bH,e1]) ?_;rw[dy];exact hK _ _ (jD h hd x bj hm hr)
  split at hm
  ·split at hm
   ·rename_i q hq;obtain⟨hO,rfl⟩:=ck hm;replace hm:=hO;obtain⟨r,g1,g2,p,av⟩:=q;obtain⟨-,-,-,⟨ad,e1⟩,-⟩:=iH gL x bj hq;refine fY (v:=a.eval x) (w':=w) (by simp[execOp,bH,e1]) ?_;rw[dy];exact hK _ _ (jD h hd x bj hm hr)
   simp at hm
  simp at hm
 ·rename_i x bH;rw[bH]at bj;obtain⟨hO,rfl⟩:=ck hm;replace hm:=hO;refine fY (v:=a.eval x) (w':=w) (by simp[execOp,bH]) ?_;rw[dy];exact hK _ _ (D4 h hd x bj hm hr)
 ·rename_i c x y bH;simp only[bH,Bool.and_eq_true]at bj;obtain⟨S,F,gL,-⟩:=id h;split at hm
  ·rename_i b rT;have hb:=cv gL c bj.1.1 rT;split at hm
   ·obtain⟨hO,rfl⟩:=ck hm;replace hm:=hO;refine fY (v:=a.eval x) (w':=w) (by simp[execOp,bH,hb,asBool]) ?_;rw[dy];exact hK _ _ (jD h hd x bj.1.2 hm hr)
   obtain⟨hO,rfl⟩:=ck hm;replace hm:=hO;refine fY (v:=a.eval y) (w':=w) (by simp[execOp,bH,hb,asBool]) ?_;rw[dy];exact hK _ _ (jD h hd y bj.2 hm hr)
  simp at hm
 ·rename_i t bH;split at hm
  ·rename_i ti ga;simp only[Option.some.injEq,Prod.mk.injEq]at hm;obtain⟨rfl,rfl⟩:=hm;exact oT dy (by simp only[execOp,bH]) (He h hd ga hr) hK
  simp at hm
 ·rename_i t x bH;rw[bH]at bj;split at hm
  ·split at hm
   ·rename_i y M hg;split at hm
    ·simp only[Option.some.injEq,Prod.mk.injEq]at hm;obtain⟨rfl,rfl⟩:=hm;exact oT dy (by simp only[execOp,bH]) (MD (t:=t) h hd x bj hg hr) hK
    simp at hm
   simp at hm
  simp at hm
 ·rename_i t ps bH;rw[bH]at bj;split at hm
  ·rename_i ti ga;split at hm
   ·rename_i z hz;split at hm
    ·rename_i pl gJ;split at hm
     ·rename_i ys M hg;split at hm
      ·rename_i cs hf;simp only[Option.some.injEq,Prod.mk.injEq]at hm;obtain⟨rfl,rfl⟩:=hm;exact oT dy (by simp only[execOp,bH]) (G0 h hd ps bj ga hz gJ hg hf hr) hK
      simp at hm
     simp at hm
    simp at hm
   simp at hm
  simp at hm
 ·rename_i t n ps bH;rw[bH]at bj;split at hm
  ·rename_i e he;split at hm
   ·rename_i ti ga;split at hm
    ·rename_i ys M hg;split at hm
     ·rename_i hc;simp only[Option.some.injEq,Prod.mk.injEq]at hm;obtain⟨rfl,rfl⟩:=hm;exact oT dy (by simp only[execOp,bH]) (vE h hd ps bj he ga hg hc.1 hc.2.1 hc.2.2.1 hc.2.2.2 hr) hK
     simp at hm
    simp at hm
   simp at hm
  simp at hm
 ·rename_i t x bH;rw[bH]at bj;obtain⟨hO,rfl⟩:=ck hm;replace hm:=hO;exact oT dy (by simp only[execOp,bH]) (H5 h hd x bj hm hr) hK
 ·rename_i t x f bH;rw[bH]at bj;obtain⟨hO,rfl⟩:=ck hm;replace hm:=hO;exact oT dy (by simp only[execOp,bH]) (xd h hd x bj hm hr) hK
 ·rename_i t x f bH;rw[bH]at bj;obtain⟨hO,rfl⟩:=ck hm;replace hm:=hO;exact oT dy (by simp only[execOp,bH]) (Gq h hd x bj hm hr) hK
 ·rename_i t x i bH;simp only[bH,Bool.and_eq_true]at bj;obtain⟨hO,rfl⟩:=ck hm;replace hm:=hO;exact oT dy (by simp only[execOp,bH]) (w9 h hd x i bj.1 bj.2 hm hr) hK
 ·rename_i t x i bH;simp only[bH,Bool.and_eq_true]at bj;obtain⟨hO,rfl⟩:=ck hm;replace hm:=hO;exact oT dy (by simp only[execOp,bH]) (FK h hd x i bj.1 bj.2 hm hr) hK
 ·rename_i x i bH;rw[bH]at bj;obtain⟨hO,rfl⟩:=ck hm;replace hm:=hO;exact oT dy (by simp only[execOp,bH]) (A1 h hd x bj hm hr) hK
 ·rename_i op t x y t' bH;simp only[bH,Bool.and_eq_true]at bj;split at hm
  ·rename_i ax hx;split at hm
   ·rename_i ay hy;split at hm
    ·rename_i v hv;simp only[Option.some.injEq,Prod.mk.injEq]at hm;obtain⟨rfl,rfl⟩:=hm;exact oT dy (by simp only[execOp,bH]) (MG h hd x y bj.1 bj.2 hx hy hv hr) hK
    simp at hm
   simp at hm
  simp at hm
 ·rename_i op t x bH;rw[bH]at bj;split at hm
  ·rename_i vx hx;split at hm
   ·rename_i v hv;simp only[Option.some.injEq,Prod.mk.injEq]at hm;obtain⟨rfl,rfl⟩:=hm;exact oT dy (by simp only[execOp,bH]) (Nd h hd x bj hx hv hr) hK
   simp at hm
  simp at hm
 ·rename_i s t x bH;rw[bH]at bj;obtain⟨hO,rfl⟩:=ck hm;replace hm:=hO;exact oT dy (by simp only[execOp,bH]) (IY h hd x bj hm hr) hK
 ·rename_i t x l hh m bH;simp only[bH,Bool.and_eq_true,Option.all_eq_true,Bool.or_eq_true,Option.isNone_iff_eq_none]at bj;obtain⟨hO,rfl⟩:=ck hm;replace hm:=hO;exact oT dy (by simp only[execOp,bH]) (EJ h hd x l hh m bj.1.1.1.1 bj.1.1.1.2 bj.1.1.2 bj.1.2 bj.2 hm hr) hK
 ·rename_i t l c bH;simp only[bH,Bool.and_eq_true]at bj;split at hm
  ·rename_i e he;split at hm
   ·rename_i ti ga;split at hm
    ·rename_i k x k' y h1 h2;split at hm
     ·rename_i hb;simp only[Option.some.injEq,Prod.mk.injEq]at hm;obtain⟨rfl,rfl⟩:=hm;exact oT dy (by simp only[execOp,bH]) (w8 h hd l c bj.1 bj.2 he ga h1 h2 hb hr) hK
     simp at hm
    simp at hm
   simp at hm
  simp at hm
 ·rename_i f p q bH;simp only[bH,Bool.and_eq_true]at bj;split at hm
  ·rename_i ap aq hp hq;split at hm
   ·rename_i Ed;simp only[Option.some.injEq,Prod.mk.injEq]at hm;obtain⟨rfl,rfl⟩:=hm;refine oT (s:=Instr.makeFunc f (p.map a.eval) (q.map a.eval)) dy (by simp only[execOp,bH]) (dh (z:=.func f (p.map a.eval) (q.map a.eval)) h hd hr rfl fun S F hc=>?_) hK;have abH:shares ((p.toList++q.toList).map (resolve σ))=[]:=by simpa using Ed
    have hap:∀(x:Operand),x∈p.toList++q.toList->aE x=true:=by
     intro x hx;rcases List.mem_append.1 hx with hx|hx
     ·exact List.all_eq_true.1 bj.1 x hx
     exact List.all_eq_true.1 bj.2 x hx
    have hl:fk ((p.toList++q.toList).map (resolve σ))=some (ap++aq):=by rw[List.map_append];exact s9 hp hq
    have:=kF hc (S1:=S) (fun _ h=>h) (p.toList++q.toList) (List.all_eq_true.2 hap) hl (by rw[abH];simp);rw[List.map_append]at this;obtain⟨c1,c2⟩:=nH (by rw[s8 hp];simp) this;simp only[Rel];exact⟨_,_,[],[],rfl,by simpa using c1,by simpa using c2,rfl⟩
   simp at hm
  simp at hm
 ·rename_i c bH;rw[bH]at bj;split at hm
  ·rename_i f hc;simp only[hc,Bool.and_eq_true]at bj;obtain⟨g,p,q,e1,e2⟩:=Aj hG h (d:=some d) (by simpa using hd) f bj.2 c.args.toList bj.1 hm hr hs;have hx:execOp a.eval o=callFunc g (p++(c.args.toList.map a.eval).toArray++q):=by
    have:(c.args.toList.map a.eval).toArray=c.args.map a.eval:=by apply Array.ext';simp
    simp only[execOp,bH,Go.resolve,hc,Deferred.ofValue,e1,this];rfl
   refine Oper.nO (by simp[bH]) ?_;rw[hx];refine e2 _ o a K Q fun v w' hi=>?_;rw[dy];exact hK _ _ hi
  ·rename_i b hc;obtain⟨hO,rfl⟩:=ck hm;replace hm:=hO;simp only[hc,Bool.and_true]at bj;exact MF h hd dy bH hc bj hm hr hK
  simp at hm
 simp at hm
end
end Go.Ai
