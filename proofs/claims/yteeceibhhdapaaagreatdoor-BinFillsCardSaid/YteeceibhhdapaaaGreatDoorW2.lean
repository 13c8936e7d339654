/- The layer of own lemmas and contracts, part 2. -/
import Derived.Test.YteeceibhhdapaaaGreatDoorW1
import Derived.Lib.AppendStr
import Derived.Laws.StructEq
import Derived.MapKept
import Derived.OrdersIn
import Derived.RangeFuncLeaves
import Derived.RangeFuncSeq
set_option linter.unusedVariables false
set_option linter.unusedSimpArgs false
namespace Go.Ide
open Go.RowKit
section
variable {C:A8} {F:Ab} {ρ:Lk} {H:Hp} {w:World}
theorem Ao.rename {H1 H2:Hp}{e:Au}{b k n:Nat}(m:Ao C F ρ (H1++e::H2) w)(hb:ρ e.k e.g=some b)(hn:ρ k n=none)(hne:∀e'∈H1++e::H2,e'.g≠n):
  Ao C F (ρ.put k n b) (⟨k,n,e.T,e.sz,e.es⟩::(H1++H2)) w/\BQ ρ (AM F.X ρ (H1++e::H2)) w (ρ.put k n b) (AM F.X (ρ.put k n b) (⟨k,n,e.T,e.sz,e.es⟩::(H1++H2))) w:=by
 have hold:∀e'∈H1++e::H2,∀b',ρ.put k n b e'.k e'.g=some b'↔ρ e'.k e'.g=some b':=λe' he' b'=>by
  unfold Lk.put;rw[AG λh=>hne e' he' h.2]
 have hmem:∀e',e'∈H1++e::H2↔e'=e\/e'∈H1++H2:=λe'=>by simp;constructor<;>(rintro(h|h|h)<;>simp[h])
 have hO:∀b',AM F.X (ρ.put k n b) (⟨k,n,e.T,e.sz,e.es⟩::(H1++H2)) b'↔AM F.X ρ (H1++e::H2) b':=by
  intro b';unfold AM;refine or_congr Iff.rfl ⟨?_,?_⟩
  ·rintro⟨e',he',h⟩
   rcases BA.1 he' with rfl|he'
   ·rw[EH]at h;exact⟨e,by simp,by rw[hb];exact h⟩
   ·have hm:=(hmem e').2 (.inr he')
    exact⟨e',hm,(hold e' hm b').1 h⟩
  ·rintro⟨e',he',h⟩
   rcases(hmem e').1 he' with rfl|h2
   ·rw[hb]at h;cases h
    exact⟨_,Cg ..,EH _ _ _ _⟩
   ·exact⟨e',Cn _ h2,(hold e' he' b').2 h⟩
 have hOe:AM F.X (ρ.put k n b) (⟨k,n,e.T,e.sz,e.es⟩::(H1++H2))=AM F.X ρ (H1++e::H2):=funext λb=>propext (hO b)
 have x:BQ ρ (AM F.X ρ (H1++e::H2)) w (ρ.put k n b) (AM F.X (ρ.put k n b) (⟨k,n,e.T,e.sz,e.es⟩::(H1++H2))) w:=
  ⟨Ai _,λ_ _ _ h=>NC hn h,λb' _ h=>⟨by rw[hOe];exact h,rfl⟩,λ_ cs _ _ h=>⟨cs,_,h,rfl⟩⟩
 have hinj:=m.hok.inj;rw[Iy,Dm]at hinj;obtain⟨p1,⟨p2,p3⟩,p4⟩:=hinj;refine⟨⟨⟨λe' he'=>?_,?_,λe' he' b' hb'=>?_⟩,m.os,m.tape,m.output,m.size,m.blk,m.xlt,m.g0,m.gn,m.gw,λ_ _ _ h=>x.link _ _ _ (m.lnk _ _ _ h),m.shp⟩,x⟩
 ·rcases BA.1 he' with rfl|h2
  ·obtain⟨cs,a1,a2⟩:=m.at (e:=e) (by simp) hb
   have z:=a2.mono x;exact .inr ⟨b,cs,EH _ _ _ _,a1,z.len,z.siz,z.one,z.rep⟩
  ·have hm:=(hmem e').2 (.inr h2)
   rcases m.hok.ent e' hm with⟨a1,a2⟩|⟨b',cs,a1,a2,a3⟩
   ·exact .inl ⟨a1,by unfold Lk.put;rw[AG λh=>hne e' hm h.2];exact a2⟩
   ·exact .inr ⟨b',cs,(hold e' hm b').2 a1,a2,a3.mono x⟩
 ·rw[Dm,Iy]
  have tr:∀ {e1 e2:Au},e1∈H1++e::H2->e2∈H1++e::H2->(∀b b',ρ e1.k e1.g=some b->ρ e2.k e2.g=some b'->b≠b')->∀b1 b2,ρ.put k n b e1.k e1.g=some b1->ρ.put k n b e2.k e2.g=some b2->b1≠b2:=
   λh1 h2 h b1 b2 hb1 hb2=>h b1 b2 ((hold _ h1 b1).1 hb1) ((hold _ h2 b2).1 hb2)
  refine⟨λe2 he2 b1 b2 hb1 hb2=>?_,?_,?_,?_⟩
  ·rw[EH]at hb1;cases hb1
   have hm:=(hmem e2).2 (.inr he2);have hb2:=(hold _ hm b2).1 hb2;rcases List.mem_append.1 he2 with h|h
   ·exact λhe=>p4 e2 h e (by simp) b2 b hb2 hb he.symm
   ·exact p2 e2 h b b2 hb hb2
  ·exact p1.imp_of_mem λh1 h2 h=>tr (by simp[h1]) (by simp[h2]) h
  ·exact p3.imp_of_mem λh1 h2 h=>tr (by simp[h1]) (by simp[h2]) h
  ·exact λe1 h1 e2 h2=>tr (by simp[h1]) (by simp[h2]) (p4 e1 h1 e2 (by simp[h2]))
 ·rcases BA.1 he' with rfl|h2
  ·rw[EH]at hb';cases hb'
   exact m.hok.own e (by simp) b hb
  ·have hm:=(hmem e').2 (.inr h2)
   exact m.hok.own e' hm b' ((hold _ hm b').1 hb')
theorem Ao.ghost {k n T sz:Nat}(m:Ao C F ρ H w)(hn:ρ k n=none):Ao C F ρ (⟨k,n,T,sz,[]⟩::H) w/\AM F.X ρ (⟨k,n,T,sz,[]⟩::H)=AM F.X ρ H:=by
 have hO:AM F.X ρ (⟨k,n,T,sz,[]⟩::H)=AM F.X ρ H:=funext λb=>propext (by
  unfold AM;refine or_congr Iff.rfl ⟨?_,λ⟨e,he,h⟩=>⟨e,Cn _ he,h⟩⟩;rintro⟨e,he,h⟩;rcases BA.1 he with rfl|he
  ·rw[hn]at h;cases h
  ·exact⟨e,he,h⟩)
 refine⟨⟨⟨λe he=>?_,?_,λe he b hb=>?_⟩,m.os,m.tape,m.output,m.size,m.blk,m.xlt,m.g0,m.gn,m.gw,m.lnk,m.shp⟩,hO⟩
 ·rw[hO]
  rcases BA.1 he with rfl|he
  ·exact .inl ⟨rfl,hn⟩
  ·exact m.hok.ent e he
 ·refine Dm.2 ⟨λe he b b' hb _=>?_,m.hok.inj⟩
  rw[hn]at hb;cases hb
 ·rcases BA.1 he with rfl|he
  ·rw[hn]at hb;cases hb
  ·exact m.hok.own e he b hb
def Hg (H:Hp)(esz:Nat):D->Option (List D×Prop)
 | .sl _ sz es=>some (es,sz=esz)
 | .osl k g sz i len=>match Hp.get H k with
  |some e=>some ((e.es.drop i).take len,g=e.g/\sz=e.sz/\sz=esz/\i+len<=e.es.length)
  |none=>none
 | .prim (.slice none 0 0)=>some ([],True)
 |_=>none
structure NU (ρ:Lk)(O:Nat->Prop)(w:World)(esz:Nat)(es:List D)(a:Addr)(f:Nat->Value):Prop where
 cell:∀j,j<es.length*esz->w.cell? (a.add j)=some (f j)
 one:∀j,j<es.length*esz->one (f j)=true
 siz:∀(i:Nat) (e:D),es[i]?=some e->e.cells.length=esz
 rep:∀(i:Nat) (e:D) (j:Nat) (d:D),es[i]?=some e->e.cells[j]?=some d->AU ρ O w d (f (i*esz+j))
structure M1 (ρ:Lk)(O:Nat->Prop)(w:World)(esz:Nat)(es:List D)(f:Nat->Value):Prop where
 one:∀j,j<es.length*esz->one (f j)=true
 siz:∀(i:Nat) (e:D),es[i]?=some e->e.cells.length=esz
 rep:∀(i:Nat) (e:D) (j:Nat) (d:D),es[i]?=some e->e.cells[j]?=some d->AU ρ O w d (f (i*esz+j))
theorem NU.srcv {ρ:Lk}{O:Nat->Prop}{w:World}{esz:Nat}{es:List D}{a:Addr}{f:Nat->Value}(h:NU ρ O w esz es a f):M1 ρ O w esz es f:=⟨h.one,h.siz,h.rep⟩
theorem aL {esz:Nat}{d:D}{v:Value}{es:List D}{p:Prop}(m:Ao C F ρ H w)(h:Hg H esz d=some (es,p))(hp:p)(hr:AU ρ (AM F.X ρ H) w d v):
  (v=.slice none 0 0/\es=[])\/∃a c f,v=.slice (some a) es.length c/\es.length<=c/\NU ρ (AM F.X ρ H) w esz es a f:=by
 unfold Hg at h;split at h<;>try(cases h;done)
 ·cases h
  cases hr with
  |nil=>exact .inl ⟨rfl,rfl⟩
  |emp a=>exact .inr ⟨a,0,λ_=>undef,rfl,by simp,λj hj=>by simp at hj,λj hj=>by simp at hj,λi e h=>by simp at h,λi e j d h=>by simp at h⟩
  |sl f hl hc hO hb hz hcell ho hh=>
   subst hp;refine .inr ⟨_,_,f,by rw[hl],by omega,λj hj=>?_,λj hj=>ho j (by rw[<-hl];exact hj),hz,hh⟩;rw[HS];exact hcell j (by rw[<-hl];exact hj)
 ·rename_i k g sz i len
  split at h<;>try(cases h;done)
  rename_i e he;cases h;obtain⟨rfl,rfl,rfl,hle⟩:=hp;obtain⟨hm,hk⟩:=Hp.get_mem he;cases hr with
  |onil=>exact .inl ⟨rfl,by simp⟩
  |osl hr hb hc hs hmx=>
   rename_i cap b T cs fz;rw[<-hk]at hr;obtain⟨cs',h1,h2⟩:=m.at hm hr;rw[hb]at h1;cases h1;have hlen:((e.es.drop i).take len).length=len:=by simp;omega
   have hin:∀j,j<len*e.sz->i*e.sz+j<cs.size:=λj hj=>by
    have:(i+len)*e.sz<=e.es.length*e.sz:=CI _ hle
    rw[Bu]at this;have:=h2.len;omega
   have hget:∀(q:Nat) (d:D),((e.es.drop i).take len)[q]?=some d->e.es[i+q]?=some d:=λq d hq=>by
    rw[Ej]at hq;split at hq
    ·rwa [HH]at hq
    ·cases hq
   refine .inr ⟨_,cap,λj=>cs.getD (i*e.sz+j) undef,by rw[hlen],by omega,λj hj=>?_,λj hj=>?_,λq d hq=>h2.siz _ d (hget q d hq),λq d j c hq hc=>?_⟩
   ·rw[hlen]at hj
    have:=hin j hj
    rw[HS];simp[World.cell?,hb,this]
   ·rw[hlen]at hj
    have h':=hin j hj
    have:=h2.one (i*e.sz+j) (cs[i*e.sz+j]) (Bc h')
    simpa[Ax,Bc h']using this
   ·have:=h2.rep (i+q) d j c (hget q d hq) hc
    rw[Bu,EW]at this;exact this
 ·cases h
  cases hr;exact .inl ⟨rfl,rfl⟩
def D1 (tt:Nat->Option Az)(H:Hp)(n k:Nat)(g:Operand->D):Op->Option (D×Hp×Prop)
 | .call ⟨.builtin .append,args,tys⟩=>match args.toList with
  | [s,x]=>match tys.toList with
   | [t,t']=>match Nat.beq t t' with
    |true=>match tt t with
     |some i=>match i.ti with
      | .slice e esz eby _=>match Hg H esz (g x)with
       |some (news,p)=>match g s with
        | .osl k1 g1 sz 0 len=>match Hp.get H k1 with
         |some e1=>some (.osl k n esz 0 (len+news.length),⟨k,n,e,esz,e1.es.take len++news⟩::Hp.del H k1,
           p/\g1=e1.g/\sz=e1.sz/\sz=esz/\e1.T=e/\len<=e1.es.length/\(len+news.length)*eby<=140737488355328/\1<=eby/\1<=esz)
         |none=>none
        | .prim (.slice none 0 0)=>some (.osl k n esz 0 news.length,⟨k,n,e,esz,news⟩::H,p/\news.length*eby<=140737488355328/\1<=eby/\1<=esz)
        |_=>none
       |none=>none
      |_=>none
     |none=>none
    |false=>none
   |_=>none
  |_=>none
 |_=>none
theorem Rr {P:Program}{t e:Nat}{ty:Nat}{i:TypeInfo}(ht:P.underlying t=some (.slice e))(hi:P.info? e=some i){ao:Option Addr}{len cap:Nat}(hlc:len<=cap):
  (Builtin.append_ #[t,t] ty #[.slice ao len cap,.slice none 0 0]).run P w=.ok (.slice ao len cap) w:=by
 cases ao<;>simp[Builtin.append_,Cj ht,sizeOf,typeInfo,hi,Builtin.lenOf,hlc,run_firstCells_none,storeCells]
theorem Yu {O:Nat->Prop}{e:Au}{k g T len:Nat}{news:List D}{f:Nat->Value}{cs cs':Array Value}(h:DB ρ O w e cs)(hl:len<=e.es.length)(hs:M1 ρ O w e.sz news f)
  (hlow:∀q,q<len*e.sz->cs'.getD q undef=cs.getD q undef) (hmid:∀j,j<news.length*e.sz->cs'.getD (len*e.sz+j) undef=f j) (hsize:(len+news.length)*e.sz<=cs'.size)
  (hone:∀(q:Nat) (v:Value),cs'[q]?=some v->one v=true):DB ρ O w ⟨k,g,T,e.sz,e.es.take len++news⟩ cs':=by
 have hlen:(e.es.take len).length=len:=by simp;omega
 have hget:∀(i:Nat) (d:D),(e.es.take len++news)[i]?=some d->(i<len/\e.es[i]?=some d)\/(len<=i/\news[i-len]?=some d):=λi d hd=>by
  rcases BG i len with hi|hi
  ·rw[GO (by omega),Ej,AH hi]at hd;exact .inl ⟨hi,hd⟩
  ·rw[Ey (by omega),hlen]at hd;exact .inr ⟨hi,hd⟩
 refine⟨by dsimp only;rw[Bk,hlen];exact hsize,λi d hd=>?_,hone,λi d j c hd hc=>?_⟩
 ·rcases hget i d hd with⟨_,h1⟩|⟨_,h1⟩
  ·exact h.siz i d h1
  ·exact hs.siz _ d h1
 ·dsimp only at hd⊢
  rcases hget i d hd with⟨hi,h1⟩|⟨hi,h1⟩
  ·have hj:j<e.sz:=by rw[<-h.siz i d h1];exact(List.getElem?_eq_some_iff.1 hc).1
   rw[hlow]
   ·exact h.rep i d j c h1 hc
   ·have:(i+1)*e.sz<=len*e.sz:=CI _ hi
    rw[Bu]at this;omega
  ·have hj:j<e.sz:=by rw[<-hs.siz _ d h1];exact(List.getElem?_eq_some_iff.1 hc).1
   have hil:i-len<news.length:=(List.getElem?_eq_some_iff.1 h1).1;have e1:i*e.sz+j=len*e.sz+((i-len)*e.sz+j):=by
    have:i=len+(i-len):=by omega
    conv=>lhs;rw[this,Bu]
    omega
   rw[e1,hmid]
   ·exact hs.rep _ d j c h1 hc
   ·have:(i-len+1)*e.sz<=news.length*e.sz:=CI _ hil
    rw[Bu]at this;omega
structure Lj (P:Program)(t e esz eby:Nat)(ez:Value):Prop where
 under:P.underlying t=some (.slice e)
 inf:∃i:TypeInfo,P.info? e=some i/\i.size=esz/\i.bytes=eby/\i.zero=some ez
 zs:ez.cells.size=esz
 zo:∀(j:Nat) (x:Value),ez.cells[j]?=some x->one x=true
theorem PP {z:Array Value}(hz:∀(j:Nat) (x:Value),z[j]?=some x->one x=true)(n:Nat):∀(q:Nat) (v:Value),(Builtin.zeroCells z n)[q]?=some v->one v=true:=λq v hv=>by
 unfold Builtin.zeroCells at hv;rw[Array.getElem?_map]at hv;cases hr:(Array.range (n*z.size))[q]? with
 |none=>rw[hr]at hv;cases hv
 |some i=>
  rw[hr]at hv;simp only[I5,BL]at hv;have hi:i<n*z.size:=by
   obtain⟨h1,h2⟩:=Array.getElem?_eq_some_iff.1 hr;simp at h2 h1;omega
  have hpos:0<z.size:=by
   rcases Db z.size with h|h
   ·rw[h]at hi;simp at hi
   ·exact h
  have hlt:=B5 i hpos;rw[<-hv,getElem!_pos z (i%z.size) hlt];exact hz (i%z.size) _ (Bc hlt)
theorem fF {P:Program}{t e esz eby ty:Nat}{ez:Value}(T:Lj P t e esz eby ez){b len cap c:Nat}{cs:Array Value}(hb:w.heap[b]?=some (.cells cs e (0,0)))(hlc:len*esz<=cs.size){news:List D}{a:Addr}{f:Nat->Value}{O:Nat->Prop}
  (hs:NU ρ O w esz news a f) (hg:cap<len+news.length) (hby:(len+news.length)*eby<=140737488355328) (h1:1<=eby):
  (Builtin.append_ #[t,t] ty #[.slice (some ⟨b,0,none⟩) len cap,.slice (some a) news.length c]).run P w =
   .ok (.slice (some ⟨w.heap.size,0,none⟩) (len+news.length) (grownCap w (len+news.length) cap e))
    (w.drew.alloc (.cells ((cs.toList.take (len*esz)).toArray++((List.range (news.length*esz)).map f).toArray++Builtin.zeroCells ez.cells (grownCap w (len+news.length) cap e-(len+news.length))) e)):=by
 obtain⟨i,i1,rfl,rfl,i4⟩:=T.inf;have hmx:len+news.length<=140737488355328:=BR (by have:=Cd (len+news.length) h1;omega) hby;exact run_append_grow (P:=P) w t ty e i ez T.under i1 i4 ⟨b,0,none⟩ len cap (cs.toList.take (len*i.size)) (by simp;omega) (λj v hv=>by
   rw[Ej]at hv;split at hv
   ·rw[HS]
    simp only[Iw]at hv;simp[World.cell?,hb,hv]
   ·cases hv) a news.length c ((List.range (news.length*i.size)).map f) (by simp) (λj v hv=>by
   rw[A7]at hv
   by_cases hj:j<news.length*i.size
   ·rw[Iz hj]at hv;cases hv;exact hs.cell j hj
   ·rw[Dd (by simp;omega)]at hv;cases hv) hg (by omega) (growslice_fits hg hby)
structure Q9 (P:Program)(w:World)(t u ty e esz eby:Nat)(ez sv:Value)(n:Nat)(f:Nat->Value):Prop where
 room:∀(b len cap:Nat) (cs:Array Value),w.heap[b]?=some (.cells cs e (0,0))->len+n<=cap->len*esz+n*esz<=cs.size ->
  (Builtin.append_ #[t,u] ty #[.slice (some ⟨b,0,none⟩) len cap,sv]).run P w=.ok (.slice (some ⟨b,0,none⟩) (len+n) cap) (w.setRow b (cs.toList.take (len*esz)++(List.range (n*esz)).map f++cs.toList.drop (len*esz+((List.range (n*esz)).map f).length)).toArray)
 grow:∀(b len cap:Nat) (cs:Array Value),w.heap[b]?=some (.cells cs e (0,0))->len*esz<=cs.size->cap<len+n->(len+n)*eby<=140737488355328 ->
  (Builtin.append_ #[t,u] ty #[.slice (some ⟨b,0,none⟩) len cap,sv]).run P w=.ok (.slice (some ⟨w.heap.size,0,none⟩) (len+n) (grownCap w (len+n) cap e))
   (w.drew.alloc (.cells ((cs.toList.take (len*esz)).toArray++((List.range (n*esz)).map f).toArray++Builtin.zeroCells ez.cells (grownCap w (len+n) cap e-(len+n))) e))
 none_:0<n->n*eby<=140737488355328->(Builtin.append_ #[t,u] ty #[.slice none 0 0,sv]).run P w=.ok (.slice (some ⟨w.heap.size,0,none⟩) n (grownCap w n 0 e))
   (w.drew.alloc (.cells (((List.range (n*esz)).map f).toArray++Builtin.zeroCells ez.cells (grownCap w n 0 e-n)) e))
 zero_:n=0->(Builtin.append_ #[t,u] ty #[.slice none 0 0,sv]).run P w=.ok (.slice none 0 0) w
theorem Ow {O:Nat->Prop}{k g sz len cap b T:Nat}{cs:Array Value}{fz:Nat×Nat}(hr:ρ k g=some b)(hb:w.heap[b]?=some (.cells cs T fz))(hc:len<=cap)(hs:cap*sz=cs.size)(hm:cap<=maxLen):
  AU ρ O w (.osl k g sz 0 len) (.slice (some ⟨b,0,none⟩) len cap):=by
 have:=AU.osl (O:=O) (ρ:=ρ) (k:=k) (g:=g) (i:=0) (sz:=sz) (len:=len) hr hb hc (by rw[BP];exact hs) (by rw[BP];exact hm)
 rwa [Gm]at this
structure KT (C:A8)(F:Ab)(H:Hp)(ρ:Lk)(w:World)(n:Nat)(d:D)(H':Hp)(v:Value)(ρ':Lk)(w':World):Prop where
 mem:Ao C F ρ' H' w'
 ext:BQ ρ (AM F.X ρ H) w ρ' (AM F.X ρ' H') w'
 far:∀k g',g'≠n->ρ' k g'=ρ k g'
 rep:AU ρ' (AM F.X ρ' H') w' d v
theorem PM {xs ys:Array Value}{q:Nat}(h:q<xs.size):(xs++ys).getD q undef=xs.getD q undef:=by
 simp only[Ax];rw[GN h]
theorem eA {xs ys:Array Value}{q:Nat}(h:xs.size<=q):(xs++ys).getD q undef=ys.getD (q-xs.size) undef:=by
 simp only[Ax];rw[GM h]
theorem VI {t e0 esz eby ty n k:Nat}{ez:Value}(T:Lj C.P t e0 esz eby ez){H1 H2:Hp}{e:Au}{b len cap:Nat}(m:Ao C F ρ (H1++e::H2) w)(hr:ρ e.k e.g=some b)(hT:e.T=e0)(hsz:esz=e.sz)(hle:len<=e.es.length)
  {cs:Array Value} (hbk:w.heap[b]?=some (.cells cs e.T (0,0))) (hcs:cap*esz=cs.size) (hcap:cap<=maxLen) (fr:∀k,ρ k n=none) (hlt:∀e'∈H1++e::H2,e'.g≠n) {news:List D} {f:Nat->Value} {u:Nat} {sv:Value}
  (S:Q9 C.P w t u ty e0 esz eby ez sv news.length f) (hs:M1 ρ (AM F.X ρ (H1++e::H2)) w esz news f) (hby:(len+news.length)*eby<=140737488355328) (h1:1<=eby):
  ∃v ρ' w',(Builtin.append_ #[t,u] ty #[.slice (some ⟨b,0,none⟩) len cap,sv]).run C.P w=.ok v w' /\
   KT C F (H1++e::H2) ρ w n (.osl k n esz 0 (len+news.length)) (⟨k,n,e0,esz,e.es.take len++news⟩::(H1++H2)) v ρ' w':=by
 subst hT hsz;obtain⟨cs0,q1,q2⟩:=m.at (e:=e) (by simp) hr;rw[hbk]at q1;cases q1;have hlc:len*e.sz<=cs.size:=BR (CI _ hle) q2.len;have hmx:len+news.length<=maxLen:=by
  have:=Cd (len+news.length) h1
  simp only[maxLen];omega
 have hlim:∀q,q<len*e.sz->q<cs.size:=λq hq=>by omega
 by_cases hroom:len+news.length<=cap
 ·have hfit:len*e.sz+news.length*e.sz<=cs.size:=by rw[<-hcs,<-Bu];exact CI _ hroom
  have run:=S.room b len cap cs hbk hroom hfit;generalize hcs':(cs.toList.take (len*e.sz)++(List.range (news.length*e.sz)).map f++cs.toList.drop (len*e.sz+((List.range (news.length*e.sz)).map f).length)).toArray=cs' at run;have hsz':cs'.size=cs.size:=by rw[<-hcs'];simp;omega
  have get:∀q,cs'[q]?=if q<len*e.sz then cs[q]? else if q<len*e.sz+news.length*e.sz then some (f (q-len*e.sz))else cs[q]?:=λq=>by
   rw[<-hcs'];simp only[Jp];rw[Do];have hl1:(cs.toList.take (len*e.sz)).length=len*e.sz:=by simp;omega
   rcases BG q (len*e.sz)with hq|hq
   ·rw[GO (by omega),AH hq,Ej,AH hq];simp
   ·rw[Ey (by omega),AG (by omega),hl1]
    rcases BG (q-len*e.sz) (news.length*e.sz)with hq2|hq2
    ·rw[GO (by simp;omega),AH (by omega),A7,Iz hq2];rfl
    ·rw[Ey (by simp;omega),AG (by omega),HH]
     simp only[Am,List.length_range];rw[show len*e.sz+news.length*e.sz+(q-len*e.sz-news.length*e.sz)=q from by omega];simp
  have ho:DB ρ (AM F.X ρ (H1++e::H2)) w ⟨e.k,e.g,e.T,e.sz,e.es.take len++news⟩ cs':=Yu q2 hle hs
   (λq hq=>by rw[Ax,get,AH hq,<-Ax])
   (λj hj=>by rw[Ax,get,AG (by omega),AH (by omega),show len*e.sz+j-len*e.sz=j from by omega];rfl)
   (by rw[hsz',Bu];exact hfit) (λq v hv=>by
    rw[get]at hv;split at hv
    ·exact q2.one _ _ hv
    ·split at hv
     ·cases hv;exact hs.one _ (by omega)
     ·exact q2.one _ _ hv)
  obtain⟨m1,x1⟩:=m.write (e':=⟨e.k,e.g,e.T,e.sz,e.es.take len++news⟩) hr hbk rfl rfl rfl hsz' ho;obtain⟨m2,x2⟩:=m1.rename (e:=⟨e.k,e.g,e.T,e.sz,e.es.take len++news⟩) (k:=k) (n:=n) hr (fr k) (λe' he'=>by
   rcases List.mem_append.1 he' with h|h
   ·exact hlt e' (by simp[h])
   ·rcases BA.1 h with rfl|h
    ·exact hlt e (by simp)
    ·exact hlt e' (by simp[h]))
  rw[SL hbk]at run;refine⟨_,ρ.put k n b,_,run,?_⟩;refine⟨m2,x1.trans x2,λk' g' hg=>by unfold Lk.put;rw[AG λh=>hg h.2],?_⟩;have hlt:b<w.heap.size:=(Array.getElem?_eq_some_iff.1 hbk).1;exact Ow (b:=b) (T:=e.T) (cs:=cs') (fz:=(0,0)) (EH _ _ _ _) (by rw[K4 _ _ _ _ _ hlt,AH rfl]) hroom (by rw[hsz',<-hcs]) hcap
 ·have run:=S.grow b len cap cs hbk hlc (Nat.lt_of_not_le hroom) hby
  generalize hcap':grownCap w (len+news.length) cap e.T=cap' at run;have hge:len+news.length<=cap':=by rw[<-hcap'];exact grownCap_ge ..
  have hmx':cap'<=maxLen:=by rw[<-hcap'];exact grownCap_le_maxLen _ _ _ _ hmx
  generalize hcs':(cs.toList.take (len*e.sz)).toArray++((List.range (news.length*e.sz)).map f).toArray++Builtin.zeroCells ez.cells (cap'-(len+news.length))=cs' at run;have s1:(cs.toList.take (len*e.sz)).toArray.size=len*e.sz:=by simp;omega
  have s2:((List.range (news.length*e.sz)).map f).toArray.size=news.length*e.sz:=by simp
  have hsz':cs'.size=cap'*e.sz:=by
   rw[<-hcs',I4,I4,s1,s2,size_zeroCells,T.zs,<-Bu,<-Bu]
   congr 1;omega
  obtain⟨m0,hO0⟩:=m.sub (H':=H1++H2) (Oy (O2 _) (NG _ _));have x0:BQ ρ (AM F.X ρ (H1++e::H2)) w ρ (AM F.X ρ (H1++H2)) w.drew:=
   ⟨Ai _,λ_ _ _ h=>h,λb' _ h=>⟨λh'=>h (hO0 b' h'),rfl⟩,λ_ cs _ _ h=>⟨cs,_,h,rfl⟩⟩
  have ho:DB ρ (AM F.X ρ (H1++H2)) w.drew ⟨k,n,e.T,e.sz,e.es.take len++news⟩ cs':=by
   have hlow:∀q,q<len*e.sz->cs'.getD q undef=cs.getD q undef:=λq hq=>by
    rw[<-hcs',PM (by rw[I4];omega),PM (by omega)];simp only[Ax,Jp,Ej,AH hq];simp
   have hmid:∀j,j<news.length*e.sz->cs'.getD (len*e.sz+j) undef=f j:=λj hj=>by
    rw[<-hcs',PM (by rw[I4];omega),eA (by omega),s1,show len*e.sz+j-len*e.sz=j from by omega];simp[Ax,hj]
   refine(Yu q2 hle hs hlow hmid (by rw[hsz'];exact CI _ hge) λq v hv=>?_).mono x0;rw[<-hcs']at hv;rcases BG q (len*e.sz+news.length*e.sz)with hq|hq
   ·rw[GN (by rw[I4];omega)]at hv
    rcases BG q (len*e.sz)with hq2|hq2
    ·rw[GN (by omega)]at hv
     simp only[Jp,Ej,AH hq2]at hv;exact q2.one q v (by simpa using hv)
    ·rw[GM (by omega),s1]at hv
     simp only[Jp,A7]at hv;rw[Iz (by omega)]at hv;cases hv;exact hs.one _ (by omega)
   ·rw[GM (by rw[I4];omega)]at hv
    exact PP T.zo _ _ v hv
  obtain⟨m1,x1⟩:=m0.drew.alloc ⟨k,n,e.T,e.sz,e.es.take len++news⟩ cs' (fr k) (λe' he' h=>hlt e' (by rcases List.mem_append.1 he' with h|h<;>simp[h]) h.2) ho;refine⟨_,_,_,run,m1,x0.trans x1,λk' g' hg=>by unfold Lk.put;rw[AG λh=>hg h.2],?_⟩;exact Ow (b:=w.heap.size) (T:=e.T) (cs:=cs') (fz:=(0,0)) (EH _ _ _ _) (by rw[ED];exact AH rfl) hge hsz'.symm hmx'
theorem R7 {t e0 esz eby ty:Nat}{P:Program}{O:Nat->Prop}{ez:Value}(T:Lj P t e0 esz eby ez)(h1:1<=eby){news:List D}{a:Addr}{c:Nat}{f:Nat->Value}(hs:NU ρ O w esz news a f):
  Q9 P w t t ty e0 esz eby ez (.slice (some a) news.length c) news.length f where
 room b len cap cs hbk hroom hfit:=by
  obtain⟨i,i1,rfl,i3,i4⟩:=T.inf;exact run_append_room (P:=P) w t ty e0 i T.under i1 b len cap cs hbk a news.length c ((List.range (news.length*i.size)).map f) (by simp) (λj v hv=>by
   rw[A7]at hv
   by_cases hj:j<news.length*i.size
   ·rw[Iz hj]at hv;cases hv;exact hs.cell j hj
   ·rw[Dd (by simp;omega)]at hv;cases hv) (λu hu=>by
    rw[aC];obtain⟨j,hj,rfl⟩:=List.mem_map.1 hu;exact hs.one j (by simpa using hj)) hroom (by simp;exact hfit)
 grow b len cap cs hb hlc hg hby:=fF (P:=P) (ty:=ty) (c:=c) T hb hlc hs hg hby h1
 none_ h0 hby:=by
  obtain⟨i,i1,rfl,rfl,i4⟩:=T.inf;have hmx:news.length<=maxLen:=by
   have:=Cd news.length h1
   simp only[maxLen];omega
  exact run_append_nil (P:=P) w t ty e0 i ez T.under i1 i4 a news.length c ((List.range (news.length*i.size)).map f) (by simp) (λj v hv=>by
   rw[A7]at hv
   by_cases hj:j<news.length*i.size
   ·rw[Iz hj]at hv;cases hv;exact hs.cell j hj
   ·rw[Dd (by simp;omega)]at hv;cases hv) h0 (by simp only[maxLen]at hmx;omega) (by omega)
 zero_ h0:=by
  obtain⟨i,i1,rfl,rfl,i4⟩:=T.inf;simp[Builtin.append_,Cj T.under,sizeOf,typeInfo,i1,Builtin.lenOf,Builtin.firstCells,loadCells,loadCellsFrom,h0]
theorem append_nil {t e0 esz eby ty n k:Nat}{ez:Value}(T:Lj C.P t e0 esz eby ez)(m:Ao C F ρ H w)(fr:∀k,ρ k n=none)(hlt:∀e'∈H,e'.g≠n){news:List D}{f:Nat->Value}{u:Nat}{sv:Value}
  (S:Q9 C.P w t u ty e0 esz eby ez sv news.length f) (hs:M1 ρ (AM F.X ρ H) w esz news f) (hby:news.length*eby<=140737488355328) (h1:1<=eby):
  ∃v ρ' w',(Builtin.append_ #[t,u] ty #[.slice none 0 0,sv]).run C.P w=.ok v w' /\
   KT C F H ρ w n (.osl k n esz 0 news.length) (⟨k,n,e0,esz,news⟩::H) v ρ' w':=by
 rcases Db news.length with h0|h0
 ·have hn:=ET h0
  subst hn;obtain⟨m1,hO⟩:=m.ghost (k:=k) (n:=n) (T:=e0) (sz:=esz) (fr k);exact⟨.slice none 0 0,ρ,w,S.zero_ rfl,m1,by rw[hO];exact .refl _ _ _,λ_ _ _=>rfl,.onil _ _ _⟩
 ·have hmx:news.length<=maxLen:=by
   have:=Cd news.length h1
   simp only[maxLen];omega
  have run:=S.none_ h0 hby;generalize hcap':grownCap w news.length 0 e0=cap' at run;have hge:news.length<=cap':=by rw[<-hcap'];exact grownCap_ge ..
  have hmx':cap'<=maxLen:=by rw[<-hcap'];exact grownCap_le_maxLen _ _ _ _ hmx
  generalize hcs':((List.range (news.length*esz)).map f).toArray++Builtin.zeroCells ez.cells (cap'-news.length)=cs' at run;have s2:((List.range (news.length*esz)).map f).toArray.size=news.length*esz:=by simp
  have hsz':cs'.size=cap'*esz:=by
   rw[<-hcs',I4,s2,size_zeroCells,T.zs,<-Bu]
   congr 1;omega
  have hmid:∀j,j<news.length*esz->cs'.getD j undef=f j:=λj hj=>by
   rw[<-hcs',PM (by omega)];simp[Ax,hj]
  have ho:DB ρ (AM F.X ρ H) w.drew ⟨k,n,e0,esz,news⟩ cs':=by
   refine DB.mono ⟨?_,hs.siz,λq v hv=>?_,λq d j c hd hc=>?_⟩ (BQ.drew ρ (AM F.X ρ H) w)
   ·dsimp only;rw[hsz'];exact CI _ hge
   ·rw[<-hcs']at hv
    rcases BG q (news.length*esz)with hq|hq
    ·rw[GN (by omega)]at hv
     simp only[Jp,A7]at hv;rw[Iz hq]at hv;cases hv;exact hs.one _ hq
    ·rw[GM (by omega)]at hv
     exact PP T.zo _ _ v hv
   ·dsimp only at hd⊢
    have hj:j<esz:=by rw[<-hs.siz q d hd];exact(List.getElem?_eq_some_iff.1 hc).1
    have hq:q<news.length:=(List.getElem?_eq_some_iff.1 hd).1;rw[hmid]
    ·exact hs.rep q d j c hd hc
    ·have:(q+1)*esz<=news.length*esz:=CI _ hq
     rw[Bu]at this;omega
  obtain⟨m1,x1⟩:=m.drew.alloc ⟨k,n,e0,esz,news⟩ cs' (fr k) (λe' he' h=>hlt e' he' h.2) ho;refine⟨_,_,_,run,m1,(BQ.drew _ _ _).trans x1,λk' g' hg=>by unfold Lk.put;rw[AG λh=>hg h.2],?_⟩;exact Ow (b:=w.heap.size) (T:=e0) (cs:=cs') (fz:=(0,0)) (EH _ _ _ _) (by rw[ED];exact AH rfl) hge hsz'.symm hmx'
theorem Pe {tt:Nat->Option Az}{o:Oper}{g:Operand->D}{ev:Operand->Value}{n k:Nat}{d:D}{H':Hp}{p:Prop}(htt:Ch C.P tt)(m:Ao C F ρ H w)(fr:∀k,ρ k n=none)(hlt:∀e∈H,e.g≠n)
  (hg:∀x,AU ρ (AM F.X ρ H) w (g x) (ev x)) (h:D1 tt H n k g o.op=some (d,H',p)) (hp:p):
  ∃v ρ' w',(execOp ev o).run C.P w=.ok (.value v) w'/\KT C F H ρ w n d H' v ρ' w':=by
 unfold D1 at h;split at h<;>try(cases h;done)
 rename_i args tys ho;split at h<;>try(cases h;done)
 rename_i s x hargs;split at h<;>try(cases h;done)
 rename_i t t' htys;split at h<;>try(cases h;done)
 rename_i htt';obtain rfl:=B4 htt';split at h<;>try(cases h;done)
 rename_i i hi;split at h<;>try(cases h;done)
 rename_i e esz eby ez hk;split at h<;>try(cases h;done)
 rename_i news q hsrc;obtain⟨k1,⟨inf,k2,k3,k4,k5⟩,k6,k7⟩:=EZ (htt _ _ hi) hk;have T:Lj C.P t e esz eby ez:=⟨k1,⟨inf,k2,k3,k4,k5⟩,k6,k7⟩
 have hargs':args = #[s,x]:=by rw[<-Rc (xs:=args),hargs]
 have htys':tys = #[t,t]:=by rw[<-Rc (xs:=tys),htys]
 subst hargs' htys';have fin:∀v1 v2,ev s=v1->ev x=v2->(∃v ρ' w',(Builtin.append_ #[t,t] o.type #[v1,v2]).run C.P w=.ok v w'/\KT C F H ρ w n d H' v ρ' w') ->
   ∃v ρ' w',(execOp ev o).run C.P w=.ok (.value v) w'/\KT C F H ρ w n d H' v ρ' w':=by
  rintro v1 v2 h1 h2 ⟨v,ρ',w',h3,h4⟩;refine⟨v,ρ',w',?_,h4⟩;unfold execOp;simp only[ho,resolve,invoke,builtin,Sem.run_bind,Sem.run_pure,Result.andThen_ok,List.map_toArray,Cc,List.map_nil,h1,h2,h3]
 have hx:=hg x;have hsr:=hg s;generalize hvx:ev x=vx at hx;generalize hvs:ev s=vs at hsr;refine fin vs vx hvs hvx ?_;split at h<;>try(cases h;done)
 ·rename_i k0 g1 sz len hgs
  split at h<;>try(cases h;done)
  rename_i e1 he1;simp only[BL,Bg]at h;obtain⟨rfl,rfl,rfl⟩:=h;obtain⟨hq,rfl,rfl,rfl,rfl,hle,hby,hb1,hs1⟩:=hp;obtain⟨hm,hke⟩:=Hp.get_mem he1;obtain⟨H1,H2,a1,_,a3⟩:=Lz e1 he1;rw[hgs]at hsr;rw[a3];rcases aL m hsrc hq hx with⟨rfl,rfl⟩|⟨a,c,f,rfl,hc,hs⟩
  ·
   simp only[Gg,DY,DX];cases hsr with
   |onil=>
    obtain⟨m0,hO0⟩:=m.sub (H':=H1++H2) (by rw[a1];exact Oy (O2 _) (NG _ _));obtain⟨m1,hO⟩:=m0.ghost (k:=k) (n:=n) (T:=e1.T) (sz:=e1.sz) (fr k);refine⟨_,ρ,w,Rr k1 k2 (Ai _),by simpa using m1,?_,λ_ _ _=>rfl,.onil _ _ _⟩;simp only[NF];rw[hO];exact⟨Ai _,λ_ _ _ h=>h,λb' _ h=>⟨λh'=>h (hO0 b' h'),rfl⟩,λ_ cs _ _ h=>⟨cs,_,h,rfl⟩⟩
   |osl hr hb hc hs hmx=>
    rename_i cap b T' cs fz;rw[<-hke]at hr;obtain⟨cs0,q1,q2⟩:=m.at hm hr;rw[hb]at q1;cases q1;rw[a1]at m;have q3:DB ρ (AM F.X ρ (H1++e1::H2)) w ⟨e1.k,e1.g,e1.T,e1.sz,e1.es.take len⟩ cs:=by
     rw[<-a1];refine⟨by dsimp only;simp only[Bf];exact BR (CI _ (Nat.min_le_right _ _)) q2.len,λi d hd=>?_,q2.one,λi d j c hd hc=>?_⟩
     ·dsimp only at hd;rw[Ej]at hd;split at hd
      ·exact q2.siz i d hd
      ·cases hd
     ·dsimp only at hd⊢;rw[Ej]at hd;split at hd
      ·exact q2.rep i d j c hd hc
      ·cases hd
    obtain⟨m1,x1⟩:=m.write (e':=⟨e1.k,e1.g,e1.T,e1.sz,e1.es.take len⟩) hr hb rfl rfl rfl rfl q3;have hsame:World.setBlk w b cs e1.T=w:=by
     unfold World.setBlk
     have:w.heap.setIfInBounds b (.cells cs e1.T (0,0))=w.heap:=by
      apply Array.ext_getElem?;intro q;rw[Hl]
      by_cases hq:b=q
      ·subst hq;rw[AH rfl,AH (Array.getElem?_eq_some_iff.1 hb).1,hb]
      ·rw[AG hq]
     rw[this]
    rw[hsame]at m1 x1;obtain⟨m2,x2⟩:=m1.rename (e:=⟨e1.k,e1.g,e1.T,e1.sz,e1.es.take len⟩) (k:=k) (n:=n) hr (fr k) (λe' he'=>by
     rcases List.mem_append.1 he' with h|h
     ·exact hlt e' (by rw[a1];simp[h])
     ·rcases BA.1 h with rfl|h
      ·exact hlt e1 hm
      ·exact hlt e' (by rw[a1];simp[h]))
    refine⟨_,_,w,Rr k1 k2 hc,m2,by rw[a1];exact x1.trans x2,λk' g' hg=>by unfold Lk.put;rw[AG λh=>hg h.2],?_⟩;have fin:=AU.osl (ρ:=ρ.put k n b) (O:=AM F.X (ρ.put k n b) (⟨k,n,e1.T,e1.sz,e1.es.take len⟩::(H1++H2))) (k:=k) (g:=n) (i:=0) (EH _ _ _ _) hb hc hs hmx;exact fin
  ·cases hsr with
   |onil=>
    obtain⟨m0,hO0⟩:=m.sub (H':=H1++H2) (by rw[a1];exact Oy (O2 _) (NG _ _));have x0:BQ ρ (AM F.X ρ H) w ρ (AM F.X ρ (H1++H2)) w:=⟨Ai _,λ_ _ _ h=>h,λb' _ h=>⟨λh'=>h (hO0 b' h'),rfl⟩,λ_ cs _ _ h=>⟨cs,_,h,rfl⟩⟩
    have hs':M1 ρ (AM F.X ρ (H1++H2)) w e1.sz news f:=⟨hs.one,hs.siz,λi e j d h1 h2=>(hs.rep i e j d h1 h2).mono x0⟩
    obtain⟨v,ρ',w',r1,r2⟩:=append_nil (ty:=o.type) (k:=k) T m0 fr (λe' he'=>hlt e' (by rw[a1];rcases List.mem_append.1 he' with h|h<;>simp[h])) (R7 (c:=c) T hb1 hs) hs' (by simpa using hby) hb1;refine⟨v,ρ',w',r1,?_⟩;simp only[BP,NF,FM];exact⟨r2.mem,x0.trans r2.ext,r2.far,r2.rep⟩
   |osl hr hb hc' hcs hmx=>
    rename_i cap b T' cs fz;rw[<-hke]at hr;obtain⟨cs0,q1,q2⟩:=m.at hm hr;rw[hb]at q1;cases q1;rw[a1]at m hlt hs;obtain⟨v,ρ',w',r1,r2⟩:=VI (ty:=o.type) (k:=k) T m hr rfl rfl hle hb (by simpa using hcs) (by simpa using hmx) fr hlt (R7 (c:=c) T hb1 hs) hs.srcv hby hb1;rw[a1];refine⟨v,ρ',w',?_,r2⟩;simpa using r1
 ·rename_i hgs
  simp only[BL,Bg]at h;obtain⟨rfl,rfl,rfl⟩:=h;obtain⟨hq,hby,hb1,hs1⟩:=hp;rw[hgs]at hsr;cases hsr;rcases aL m hsrc hq hx with⟨rfl,rfl⟩|⟨a,c,f,rfl,hc,hs⟩
  ·obtain⟨m1,hO⟩:=m.ghost (k:=k) (n:=n) (T:=e) (sz:=esz) (fr k)
   exact⟨_,ρ,w,Rr k1 k2 (Ai _),m1,by rw[hO];exact .refl _ _ _,λ_ _ _=>rfl,.onil _ _ _⟩
  ·exact append_nil (ty:=o.type) (k:=k) T m fr hlt (R7 (c:=c) T hb1 hs) hs.srcv hby hb1
end
section
variable {C:A8} {F:Ab} {s:St} {ops:Array Oper} {o:Oper} {os:List Oper} {K:St->Prop}
theorem Uw:∀ {H:Hp} {k:Nat} {e:Au},e∈Hp.del H k->e∈H
 |e0::r,k,e,h=>by
  simp only[Hp.del]at h;split at h
  ·exact Cn _ h
  ·rcases BA.1 h with rfl|h
   ·exact Cg ..
   ·exact Cn _ (Uw h)
theorem li {tt:Nat->Option Az}{H:Hp}{n k:Nat}{g:Operand->D}{op:Op}{d:D}{H':Hp}{p:Prop}(h:D1 tt H n k g op=some (d,H',p))(hl:∀e∈H,e.g<n):∀e∈H',e.g<n+1:=by
 unfold D1 at h
 (repeat' split at h)<;>try(cases h;done)
 ·cases h
  intro e he;rcases BA.1 he with rfl|he
  ·exact HF _
  ·exact DE (hl e (Uw he))
 ·cases h
  intro e he;rcases BA.1 he with rfl|he
  ·exact HF _
  ·exact DE (hl e he)
theorem dG {tt:Nat->Option Az}(k:Nat)(htt:Ch C.P tt){d:D}{H':Hp}{p:Prop}(hw:CD ops s.env o=some true)(he:D1 tt s.H s.n k (BE s.env) o.op=some (d,H',p))(hp:p)
  (h:BH C F ops os ⟨BZ s.env o.dst d,H',s.n+1⟩ K):BH C F ops (o::os) s K:=
 BH.step hw (λρ a w hs=>by
  obtain⟨v,ρ',w',h1,h2⟩:=Pe htt hs.mem (λk=>hs.fresh k _ (Ai _)) (λe he=>Nat.ne_of_lt (hs.gen e he)) (DG hs.env) he hp;exact⟨v,ρ',w',.inl h1,⟨h2.mem,h2.ext,λk g hg=>by rw[h2.far k g (by omega)];exact hs.fresh k g (by omega),h2.rep⟩,li he hs.gen⟩) h
end
def H9 (s:ByteArray):List D:=s.data.toList.map λb=>.prim (.int .u8 (b.toNat:Int))
theorem JA (s:ByteArray):(H9 s).length=s.size:=by
 unfold H9;rw[Am,Hn];rfl
def JP (s:ByteArray)(j:Nat):Value:=.int .u8 ((s.data.toList.getD j 0).toNat:Int)
theorem Rs (s:ByteArray):(List.range (s.size*1)).map (JP s)=Lib.strCells s:=by
 refine O3 λj=>?_
 have hs:s.data.toList.length=s.size:=by rw[Hn];rfl
 rw[EB,A7,Lib.strCells,A7];rcases BG j s.size with h|h
 ·rw[Iz h,BI (by omega)]
  simp[JP,Ei,BI (show j<s.data.toList.length by omega)]
 ·rw[Dd (by simp;omega),Dd (by omega)];rfl
section
variable {C:A8} {F:Ab} {ρ:Lk} {H:Hp} {w:World}
theorem R9 {O:Nat->Prop}(s:ByteArray):M1 ρ O w 1 (H9 s) (JP s) where
 one _ _:=rfl
 siz i e h:=by
  unfold H9 at h;rw[A7]at h;obtain⟨b,_,rfl⟩:=Option.map_eq_some_iff.1 h;rfl
 rep i e j d h1 h2:=by
  unfold H9 at h1;rw[A7]at h1;obtain⟨b,hb,rfl⟩:=Option.map_eq_some_iff.1 h1;rcases j with _|j
  ·cases h2
   have:JP s (i*1+0)=.int .u8 (b.toNat:Int):=by
    unfold JP;rw[EB,DY,Ei,hb];rfl
   rw[this];exact .prim _
  ·simp[D.cells]at h2
theorem VN {P:Program}{t u ty e0:Nat}(T:Lj P t e0 1 1 (.int .u8 0))(hu:P.underlying u=some .string)(s:ByteArray):
  Q9 P w t u ty e0 1 1 (.int .u8 0) (.string s) s.size (JP s) where
 room b len cap cs hbk hroom hfit:=by
  obtain⟨i,i1,i2,i3,i4⟩:=T.inf;rw[Rs,Lib.strCells_length,EB];exact Lib.run_append_room_string w t u ty e0 i T.under hu i1 i2 b len cap cs hbk s hroom (by omega)
 grow b len cap cs hb hlc hg hby:=by
  obtain⟨i,i1,i2,i3,i4⟩:=T.inf;rw[Rs];rw[EB]at hlc⊢;exact Lib.run_append_grow_string w t u ty e0 i (.int .u8 0) T.under hu i1 i4 ⟨b,0,none⟩ len cap (cs.toList.take len) (by rw[i2];simp;omega) (λj v hv=>by
   rw[Ej]at hv;split at hv
   ·rw[HS]
    simp only[Iw]at hv;simp[World.cell?,hb,hv]
   ·cases hv) s hg (by omega) (by rw[i3];exact growslice_fits hg (by omega))
 none_ h0 hby:=by
  obtain⟨i,i1,i2,i3,i4⟩:=T.inf;have hr:=run_append_nil_string (P:=P) w t u ty e0 i (.int .u8 0) T.under hu i1 i4 s (by omega) (by omega) (by rw[i3];omega);have e1:(s.data.map λb=>Value.int .u8 b.toNat)=(Lib.strCells s).toArray:=by
   apply Array.ext';simp[Lib.strCells]
  rw[Rs,<-e1];exact hr
 zero_ h0:=by
  obtain⟨i,i1,i2,i3,i4⟩:=T.inf;have hf:=Lib.run_firstCells_string (P:=P) w 1 s;rw[h0]at hf;simp[Builtin.append_,Cj T.under,Cj hu,sizeOf,typeInfo,i1,i2,Builtin.lenOf,h0,hf]
def M4 (tt:Nat->Option Az)(H:Hp)(n k:Nat)(g:Operand->D):Op->Option (D×Hp×Prop)
 | .call ⟨.builtin .append,args,tys⟩=>match args.toList with
  | [s,x]=>match tys.toList with
   | [t,t']=>match tt t' with
    |some i'=>match i'.ti with
     | .string=>match tt t with
      |some i=>match i.ti with
       | .slice e esz eby ez=>match g x with
        | .prim (.string str)=>match g s with
         | .osl k1 g1 sz 0 len=>match Hp.get H k1 with
          |some e1=>some (.osl k n 1 0 (len+str.size),⟨k,n,e,1,e1.es.take len++H9 str⟩::Hp.del H k1,
            esz=1/\eby=1/\ez=.int .u8 0/\g1=e1.g/\sz=e1.sz/\sz=1/\e1.T=e/\len<=e1.es.length/\len+str.size<=140737488355328)
          |none=>none
         | .prim (.slice none 0 0)=>some (.osl k n 1 0 str.size,⟨k,n,e,1,H9 str⟩::H,esz=1/\eby=1/\ez=.int .u8 0/\str.size<=140737488355328)
         |_=>none
        |_=>none
       |_=>none
      |none=>none
     |_=>none
    |none=>none
   |_=>none
  |_=>none
 |_=>none
theorem fh {tt:Nat->Option Az}{o:Oper}{g:Operand->D}{ev:Operand->Value}{n k:Nat}{d:D}{H':Hp}{p:Prop}(htt:Ch C.P tt)(m:Ao C F ρ H w)(fr:∀k,ρ k n=none)(hlt:∀e∈H,e.g≠n)
  (hg:∀x,AU ρ (AM F.X ρ H) w (g x) (ev x)) (h:M4 tt H n k g o.op=some (d,H',p)) (hp:p):
  ∃v ρ' w',(execOp ev o).run C.P w=.ok (.value v) w'/\KT C F H ρ w n d H' v ρ' w':=by
 unfold M4 at h;split at h<;>try(cases h;done)
 rename_i args tys ho;split at h<;>try(cases h;done)
 rename_i s x hargs;split at h<;>try(cases h;done)
 rename_i t t' htys;split at h<;>try(cases h;done)
 rename_i i' hi';split at h<;>try(cases h;done)
 rename_i hk';split at h<;>try(cases h;done)
 rename_i i hi;split at h<;>try(cases h;done)
 rename_i e esz eby ez hk;split at h<;>try(cases h;done)
 rename_i str hgx;have hu:=K0 (htt _ _ hi') hk';obtain⟨k1,⟨inf,k2,k3,k4,k5⟩,k6,k7⟩:=EZ (htt _ _ hi) hk;have T0:Lj C.P t e esz eby ez:=⟨k1,⟨inf,k2,k3,k4,k5⟩,k6,k7⟩
 have hargs':args = #[s,x]:=by rw[<-Rc (xs:=args),hargs]
 have htys':tys = #[t,t']:=by rw[<-Rc (xs:=tys),htys]
 subst hargs' htys';have fin:∀v1 v2,ev s=v1->ev x=v2->(∃v ρ' w',(Builtin.append_ #[t,t'] o.type #[v1,v2]).run C.P w=.ok v w'/\KT C F H ρ w n d H' v ρ' w') ->
   ∃v ρ' w',(execOp ev o).run C.P w=.ok (.value v) w'/\KT C F H ρ w n d H' v ρ' w':=by
  rintro v1 v2 h1 h2 ⟨v,ρ',w',h3,h4⟩;refine⟨v,ρ',w',?_,h4⟩;unfold execOp;simp only[ho,resolve,invoke,builtin,Sem.run_bind,Sem.run_pure,Result.andThen_ok,List.map_toArray,Cc,List.map_nil,h1,h2,h3]
 have hx:=hg x;have hsr:=hg s;generalize hvx:ev x=vx at hx;generalize hvs:ev s=vs at hsr;refine fin vs vx hvs hvx ?_;rw[hgx]at hx;cases hx;split at h<;>try(cases h;done)
 ·rename_i k0 g1 sz len hgs
  split at h<;>try(cases h;done)
  rename_i e1 he1;simp only[BL,Bg]at h;obtain⟨rfl,rfl,rfl⟩:=h;obtain⟨rfl,rfl,rfl,rfl,q1,rfl,rfl,hle,hby⟩:=hp;have T:=T0;obtain⟨hm,hke⟩:=Hp.get_mem he1;obtain⟨H1,H2,a1,_,a3⟩:=Lz e1 he1;rw[hgs]at hsr;rw[a3];have S:=VN (w:=w) (ty:=o.type) T hu str;cases hsr with
  |onil=>
   obtain⟨m0,hO0⟩:=m.sub (H':=H1++H2) (by rw[a1];exact Oy (O2 _) (NG _ _));have x0:BQ ρ (AM F.X ρ H) w ρ (AM F.X ρ (H1++H2)) w:=⟨Ai _,λ_ _ _ h=>h,λb' _ h=>⟨λh'=>h (hO0 b' h'),rfl⟩,λ_ cs _ _ h=>⟨cs,_,h,rfl⟩⟩
   obtain⟨v,ρ',w',r1,r2⟩:=append_nil (ty:=o.type) (k:=k) (news:=H9 str) (f:=JP str) T m0 fr (λe' he'=>hlt e' (by rw[a1];rcases List.mem_append.1 he' with h|h<;>simp[h])) (by rw[JA];exact S) (R9 str) (by rw[JA];omega) (Ai _);refine⟨v,ρ',w',r1,?_⟩;simp only[BP,NF,FM];rw[JA]at r2;exact⟨r2.mem,x0.trans r2.ext,r2.far,r2.rep⟩
  |osl hr hb hc' hcs hmx=>
   rename_i cap b T' cs fz;rw[<-hke]at hr;obtain⟨cs0,q2,q3⟩:=m.at hm hr;rw[hb]at q2;cases q2;rw[a1]at m hlt;obtain⟨v,ρ',w',r1,r2⟩:=VI (ty:=o.type) (k:=k) (news:=H9 str) (f:=JP str) T m hr rfl q1 hle hb (by simpa using hcs) (by simpa using hmx) fr hlt (by rw[JA];exact S) (R9 str) (by rw[JA];omega) (Ai _);rw[a1];refine⟨v,ρ',w',?_,?_⟩
   ·simpa using r1
   ·rw[JA]at r2;exact r2
 ·rename_i hgs
  simp only[BL,Bg]at h;obtain⟨rfl,rfl,rfl⟩:=h;obtain⟨rfl,rfl,rfl,hby⟩:=hp;have T:=T0;rw[hgs]at hsr;cases hsr;have S:=VN (w:=w) (ty:=o.type) T hu str;obtain⟨v,ρ',w',r1,r2⟩:=append_nil (ty:=o.type) (k:=k) (news:=H9 str) (f:=JP str) T m fr hlt (by rw[JA];exact S) (R9 str) (by rw[JA];omega) (Ai _);rw[JA]at r2;exact⟨v,ρ',w',r1,r2⟩
end
section
variable {C:A8} {F:Ab} {s:St} {ops:Array Oper} {o:Oper} {os:List Oper} {K:St->Prop}
theorem ko {tt:Nat->Option Az}{H:Hp}{n k:Nat}{g:Operand->D}{op:Op}{d:D}{H':Hp}{p:Prop}(h:M4 tt H n k g op=some (d,H',p))(hl:∀e∈H,e.g<n):∀e∈H',e.g<n+1:=by
 unfold M4 at h
 (repeat' split at h)<;>try(cases h;done)
 ·cases h
  intro e he;rcases BA.1 he with rfl|he
  ·exact HF _
  ·exact DE (hl e (Uw he))
 ·cases h
  intro e he;rcases BA.1 he with rfl|he
  ·exact HF _
  ·exact DE (hl e he)
theorem wZ {tt:Nat->Option Az}(k:Nat)(htt:Ch C.P tt){d:D}{H':Hp}{p:Prop}(hw:CD ops s.env o=some true)(he:M4 tt s.H s.n k (BE s.env) o.op=some (d,H',p))(hp:p)
  (h:BH C F ops os ⟨BZ s.env o.dst d,H',s.n+1⟩ K):BH C F ops (o::os) s K:=
 BH.step hw (λρ a w hs=>by
  obtain⟨v,ρ',w',h1,h2⟩:=fh htt hs.mem (λk=>hs.fresh k _ (Ai _)) (λe he=>Nat.ne_of_lt (hs.gen e he)) (DG hs.env) he hp;exact⟨v,ρ',w',.inl h1,⟨h2.mem,h2.ext,λk g hg=>by rw[h2.far k g (by omega)];exact hs.fresh k g (by omega),h2.rep⟩,ko he hs.gen⟩) h
end
inductive XI where
 |map (key elem:Nat) (zero:Value)
 |strs (n:Nat)
def Nh (P:Program):Nat->List Field->Bool
 |_,[]=>true
 |i,f::fs=>(f.name != "_")&&Nat.beq f.offset i&&(match P.underlying f.type with|some .string=>true|_=>false)&&Nh P (i+1) fs
def Lg (P:Program)(t:Nat):Option XI:=match P.underlying t with
 |some (.map k e)=>match P.underlying k with
  |some .string=>match P.info? e with
   |some i=>match i.zero with
    |some z=>match KW z i.size with
     |true=>some (.map k e z)
     |false=>none
    |none=>none
   |none=>none
  |_=>none
 |some (.struct fs)=>match P.stoodInHeld t||P.eqGuardType P.depth t with
  |false=>match Nh P 0 fs.toList with
   |true=>some (.strs fs.size)
   |false=>none
  |true=>none
 |_=>none
def Lp (P:Program)(xt:Nat->Option XI):Prop:=∀t i,xt t=some i->Lg P t=some i
def HX (s:ByteArray):List D->List D->Option (Option D)
 | [],[]=>some none
 | .prim (.string k)::ks,d::vs=>match BK s k with
  |true=>some (some d)
  |false=>HX s ks vs
 |_,_=>none
def GX:List D->List D->Option Bool
 | [],[]=>some true
 | .prim (.string a)::l,.prim (.string b)::l'=>match GX l l' with
  |some r=>some (BK a b&&r)
  |none=>none
 |_,_=>none
def Hs (ok:Bool)(d:D)(b:Bool):D:=match ok with
 |true=>.tup [d,.prim (.bool b)]
 |false=>d
def bB:TI->Bool
 | .other | .ptr=>false
 |_=>true
def Fx (tt:Nat->Option Az)(xt:Nat->Option XI)(g:Operand->D):Op->Option (D×Prop)
 | .makeInterface t x=>match tt t with
  |some i=>match bB i.ti with
   |true=>some (.ifc t (g x),True)
   |false=>none
  |none=>none
 | .lookup t x ix ok=>match xt t with
  |some (.map _ _ z)=>match g x with
   | .mp ks vs=>match g ix with
    | .prim (.string s)=>match HX s ks vs with
     |some (some d)=>some (Hs ok d true,True)
     |some none=>some (Hs ok (ofV z) false,True)
     |none=>none
    |_=>none
   |_=>none
  |_=>none
 | .binOp op t x y _=>match xt t with
  |some (.strs n)=>match g x with
   | .agg l=>match g y with
    | .agg l'=>match GX l l' with
     |some b=>match M9 op b with
      |some c=>some (.prim (.bool c),Nat.beq l.length n=true)
      |none=>none
     |none=>none
    |_=>none
   |_=>none
  |_=>none
 |_=>none
section
variable {P:Program} {ρ:Lk} {O:Nat->Prop} {w:World}
theorem SP (a b:ByteArray):(a==b)=BK a b:=beq_toListBytes a b
theorem V1 {s:ByteArray}:∀ {ks vs:List D} {es:List MapEntry} {r:Option D} (i:Nat),HX s ks vs=some r->es.length=ks.length->es.length=vs.length ->
  (∀(j:Nat) (d:D),ks[j]?=some d->AU ρ O w d (es.getD j default).key)->(∀(j:Nat) (d:D),vs[j]?=some d->AU ρ O w d (es.getD j default).val) ->
  (match r with
   |none=>Instr.findNow .string (.string s) es i=some none
   |some d=>∃j v,Instr.findNow .string (.string s) es i=some (some (j,v))/\AU ρ O w d v)
 | [],[],[],r,i,h,_,_,_,_=>by simp only[HX,BL]at h;subst h;rfl
 |k::ks,v::vs,e::es,r,i,h,h1,h2,hk,hv=>by
  obtain⟨kb,rfl⟩:∃a,k=.prim (.string a):=by
   unfold HX at h;split at h<;>try(cases h;done)
   ·simp at*
   ·rename_i h1 _;cases h1;exact⟨_,rfl⟩
  simp only[HX]at h;have h0:e.key=.string kb:=by
   have:=hk 0 _ rfl
   simp at this;generalize e.key=q at this;cases this;rfl
  have h3:Instr.findNow .string (.string s) (e::es) i=(match Instr.sameNow .string (.string s) e.key with
    |some true=>some (some (i,e.val))|some false=>Instr.findNow .string (.string s) es (i+1)|none=>none):=rfl
  rw[h0]at h3;have h4:Instr.sameNow .string (.string s) (.string kb)=some (BK s kb):=by
   show some (s==kb)=_;rw[SP]
  rw[h4]at h3;cases hb:BK s kb with
  |true=>
   rw[hb]at h h3;simp only[BL]at h;subst h;exact⟨i,e.val,h3,by simpa using hv 0 v rfl⟩
  |false=>
   rw[hb]at h h3;dsimp only at h h3;rw[h3];exact V1 (i+1) h (by simpa using h1) (by simpa using h2) (λj d hd=>by simpa using hk (j+1) d (by simpa using hd)) (λj d hd=>by simpa using hv (j+1) d (by simpa using hd))
 | [],_::_,_,_,_,h,_,_,_,_=>by simp[HX]at h
 | [],[],_::_,_,_,_,h1,_,_,_=>by simp at h1
 |_::_,[],[],_,_,_,h1,_,_,_=>by simp at h1
 |_::_,[],_::_,_,_,_,_,h2,_,_=>by simp at h2
 |_::_,_::_,[],_,_,_,h1,_,_,_=>by simp at h1
theorem Nk {t k e:Nat}{z:Value}(h:Lg P t=some (.map k e z)):P.underlying t=some (.map k e)/\P.underlying k=some .string/\(∃i,P.info? e=some i/\i.zero=some z) /\
  ∀(j:Nat) (x:Value),z.cells[j]?=some x->one x=true:=by
 unfold Lg at h;split at h<;>try(cases h;done)
 ·rename_i k' e' h1
  split at h<;>try(cases h;done)
  rename_i h2;split at h<;>try(cases h;done)
  rename_i i h3;split at h<;>try(cases h;done)
  rename_i z' h4;split at h<;>try(cases h;done)
  rename_i h5;cases h;exact⟨h1,h2,⟨i,h3,h4⟩,(NX h5).2⟩
 ·(repeat' split at h)<;>cases h
theorem gR {t n:Nat}(h:Lg P t=some (.strs n)):∃fs:Array Field,P.underlying t=some (.struct fs)/\P.stoodInHeld t=false/\P.eqGuardType P.depth t=false/\Nh P 0 fs.toList=true/\fs.size=n:=by
 unfold Lg at h;split at h<;>try(cases h;done)
 ·(repeat' split at h)<;>cases h
 ·rename_i fs h1
  split at h<;>try(cases h;done)
  rename_i h2;split at h<;>try(cases h;done)
  rename_i h3;cases h;simp only[Ix]at h2;exact⟨fs,h1,h2.1,h2.2,h3,rfl⟩
theorem Vn:∀ {l l':List D} {b:Bool},GX l l'=some b->l.length=l'.length
 | [],[],_,_=>rfl
 | [],_::_,_,h=>by simp[GX]at h
 |c::l,[],_,h=>by
  unfold GX at h;split at h
  ·simp at*
  ·simp at*
  ·cases h
 |c::l,c'::l',b,h=>by
  unfold GX at h;split at h
  ·simp at*
  ·rename_i h1 h2
   cases h1;cases h2;split at h
   ·rename_i hr;simp[Vn hr]
   ·cases h
  ·cases h
theorem VE (d:Nat){xs ys:Array Value}:∀(fs:List Field) (i:Nat) (l l':List D) (b:Bool),Nh P i fs=true->GX l l'=some b->l.length=fs.length ->
  (∀(j:Nat) (c:D),l[j]?=some c->AU ρ O w c (xs.getD (i+j) undef))->(∀(j:Nat) (c:D),l'[j]?=some c->AU ρ O w c (ys.getD (i+j) undef)) ->
  (∀j,j<fs.length->i+j<xs.size/\i+j<ys.size)->(Op.eqFields (d+1) xs ys fs).run P w=.ok b w
 | [],i,[],l',b,_,h,_,_,_,_=>by
  cases l' with
  |nil=>simp only[GX,BL]at h;subst h;rfl
  |cons=>simp[GX]at h
 |f::fs,i,c::l,l',b,hf,h,hl,hx,hy,hin=>by
  cases l' with
  |nil=>simp[GX]at h
  |cons c' l'=>
   obtain⟨a,rfl⟩:∃a,c=.prim (.string a):=by
    unfold GX at h;split at h<;>try(cases h;done)
    ·simp at*
    ·rename_i h1 _;cases h1;exact⟨_,rfl⟩
   obtain⟨a',rfl⟩:∃a,c'=.prim (.string a):=by
    unfold GX at h;split at h<;>try(cases h;done)
    ·simp at*
    ·rename_i _ h1;cases h1;exact⟨_,rfl⟩
   simp only[GX]at h;cases hr:GX l l' with
   |none=>simp[hr]at h
   |some r=>
    simp only[hr,BL]at h;simp only[Nh,Ba]at hf;obtain⟨⟨⟨f1,f2⟩,f3⟩,f4⟩:=hf;have f2:=B4 f2;have f3:P.underlying f.type=some .string:=by split at f3<;>first|assumption|cases f3
    have hxa:xs[i]?=some (.string a):=by
     have:=hx 0 _ rfl
     rw[DY]at this;have hlt:=(hin 0 (by simp)).1;rw[DY]at hlt;rw[Ax,Bc hlt,IQ]at this;rw[Bc hlt];generalize xs[i]=q at this;cases this;rfl
    have hya:ys[i]?=some (.string a'):=by
     have:=hy 0 _ rfl
     rw[DY]at this;have hlt:=(hin 0 (by simp)).2;rw[DY]at hlt;rw[Ax,Bc hlt,IQ]at this;rw[Bc hlt];generalize ys[i]=q at this;cases this;rfl
    have ag:(isAgg f.type).run P w=.ok false w:=by
     unfold isAgg;rw[run_bind,Cj f3];rfl
    have part1:(part f.type xs f.offset).run P w=.ok (.string a) w:=by
     unfold part;rw[run_bind,ag];dsimp only;rw[AG (by simp),f2];simp only[hxa];rfl
    have part2:(part f.type ys f.offset).run P w=.ok (.string a') w:=by
     unfold part;rw[run_bind,ag];dsimp only;rw[AG (by simp),f2];simp only[hya];rfl
    have hne:f.name ≠ "_":=by simpa using f1
    simp only[Op.eqFields];rw[AH hne,run_bind,part1];dsimp only;rw[run_bind,part2];dsimp only;rw[run_bind,run_equalIn_string w d f.type a a' f3];dsimp only;have ih:=VE d fs (i+1) l l' r f4 hr (by simpa using hl) (λj c hc=>by have:=hx (j+1) c (by simpa using hc);rwa [show i+(j+1)=i+1+j from by omega]at this)
     (λj c hc=>by have:=hy (j+1) c (by simpa using hc);rwa [show i+(j+1)=i+1+j from by omega]at this) (λj hj=>by have:=hin (j+1) (by simp;omega);omega)
    subst h;cases hb:BK a a' with
    |true=>
     unfold BK at hb;rw[hb];simpa using ih
    |false=>
     unfold BK at hb;rw[hb];rfl
 | [],_,_::_,_,_,_,_,h,_,_,_=>by simp at h
 |_::_,_,[],_,_,_,_,h,_,_,_=>by simp at h
theorem jk {t:Nat}{i:Az}(h:D7 P t=some i)(hc:bB i.ti=true):∃u,P.underlying t=some u/\∀ms,u≠.interface ms:=by
 cases hk:i.ti with
 |int k=>exact⟨_,WU h hk,by simp⟩
 |bool=>exact⟨_,WE h hk,by simp⟩
 |string=>exact⟨_,K0 h hk,by simp⟩
 |struct fs=>obtain⟨a,h1,_⟩:=Rt h hk;exact⟨_,h1,by simp⟩
 |slice e a b c=>exact⟨_,(EZ h hk).1,by simp⟩
 |arr n e a=>obtain⟨a,h1,_⟩:=SS h hk;exact⟨_,h1,by simp⟩
 |ptr=>rw[hk]at hc;cases hc
 |other=>rw[hk]at hc;cases hc
theorem Yy {tt:Nat->Option Az}{xt:Nat->Option XI}{o:Oper}{g:Operand->D}{ev:Operand->Value}{d:D}{p:Prop}(htt:Ch P tt)(hxt:Lp P xt)(hg:∀x,AU ρ O w (g x) (ev x))
  (h:Fx tt xt g o.op=some (d,p)) (hp:p):∃v,(execOp ev o).run P w=.ok (.value v) w/\AU ρ O w d v:=by
 unfold execOp;unfold Fx at h;split at h<;>try(cases h;done)
 ·rename_i t x ho
  simp only[ho];split at h<;>try(cases h;done)
  rename_i i hi;split at h<;>try(cases h;done)
  rename_i hc;cases h;obtain⟨u,h1,h2⟩:=jk (htt _ _ hi) hc;refine⟨.iface t (ev x),?_,.ifc (hg x)⟩;rw[run_bind]
  have:(Instr.makeInterface t (ev x)).run P w=.ok (.iface t (ev x)) w:=by
   unfold Instr.makeInterface;rw[run_bind,Cj h1];dsimp only;split
   ·rename_i ms;exact AZ rfl (h2 ms)
   ·rfl
  rw[this];rfl
 ·rename_i t x ix ok ho
  simp only[ho];split at h<;>try(cases h;done)
  rename_i k e z hi;split at h<;>try(cases h;done)
  rename_i ks vs hgx;split at h<;>try(cases h;done)
  rename_i s hgi;obtain⟨a1,a2,⟨inf,a3,a4⟩,a5⟩:=Nk (hxt _ _ hi);have hx:=hg x;have hy:=hg ix;rw[hgx]at hx;rw[hgi]at hy;generalize ev x=vx at hx;generalize ev ix=vi at hy;cases hy;cases hx with
  |mp hO hr hb h1 h2 hB hk hv=>
   rename_i r clock es;have hc:(Instr.checkKey es.isEmpty 10000 k (.string s)).run P w=.ok () w:=MapKept.run_checkKey (k:=.string s) a2 (by simp[MapKept.IsKey]) _ 9999;have hz:(zeroValue e).run P w=.ok z w:=PO a3 a4 w;have find:∀q,HX s ks vs=some q->_:=λq hq=>V1 (ρ:=ρ) (O:=O) (w:=w) (es:=es.toList) 0 hq (by simpa using h1) (by simpa using h2) (λj d hd=>by simpa[Ax]using hk j d hd) (λj d hd=>by simpa[Ax]using hv j d hd)
   have okR:∀(d:D) (v:Value) (b:Bool),AU ρ O w d v->AU ρ O w (Hs ok d b) (if ok then .tuple #[v,.bool b]else v):=by
    intro d v b hr;cases ok with
    |false=>exact hr
    |true=>
     refine .tup rfl λi d' hd=>?_
     match i with
     | 0=>simp at hd;subst hd;exact hr
     | 1=>simp at hd;subst hd;exact .prim _
     |n+2=>simp at hd
   split at h<;>try(cases h;done)
   ·rename_i d' hq
    cases h;obtain⟨j,v,hf,hr'⟩:=find _ hq;refine⟨_,?_,okR _ v true hr'⟩;rw[run_bind]
    have:(Instr.lookup t (.map (some r)) (.string s) ok).run P w=.ok (if ok then .tuple #[v,.bool true]else v) w:=by
     simp[Instr.lookup,Cj a1,MapKept.run_getObj_map hb,hc,MapKept.run_findKey a2 hf,Result.andThen]
    rw[this];rfl
   ·rename_i hq
    cases h;have hf:=find _ hq;refine⟨_,?_,okR _ z false (.ofV λi x hx=>.inl (a5 i x hx))⟩;rw[run_bind]
    have:(Instr.lookup t (.map (some r)) (.string s) ok).run P w=.ok (if ok then .tuple #[z,.bool false]else z) w:=by
     simp[Instr.lookup,Cj a1,MapKept.run_getObj_map hb,hc,MapKept.run_findKey a2 hf,hz,Result.andThen]
    rw[this];rfl
 ·rename_i op t x y yt ho
  simp only[ho];split at h<;>try(cases h;done)
  rename_i n hi;split at h<;>try(cases h;done)
  rename_i l hgx;split at h<;>try(cases h;done)
  rename_i l' hgy;split at h<;>try(cases h;done)
  rename_i b hb;split at h<;>try(cases h;done)
  rename_i c hn;cases h;obtain⟨fs,a1,a2,a3,a4,a5⟩:=gR (hxt _ _ hi);have hx:=hg x;have hy:=hg y;rw[hgx]at hx;rw[hgy]at hy;generalize ev x=vx at hx;generalize ev y=vy at hy;have hp:=B4 hp;have hl':=Vn hb;cases hx with
  |agg n1 o1 r1=>
   cases hy with
   |agg n2 o2 r2=>
    rename_i xs ys;have eqf:P.fieldsOf t=fs:=by unfold Program.fieldsOf;rw[a1]
    have run:(Op.equalIn 10000 t (.agg xs) (.agg ys)).run P w=.ok b w:=by
     rw[show(10000:Nat)=9998+1+1 from rfl,run_equalIn_struct w _ t xs ys (by rw[eqf];exact a1) a2,eqf];exact VE (ρ:=ρ) (O:=O) 9998 fs.toList 0 l l' b a4 hb (by simp;omega) (λj c hc=>by rw[BP];exact r1 j c hc) (λj c hc=>by rw[BP];exact r2 j c hc)
      (λj hj=>by simp at hj;omega)
    refine⟨.bool c,?_,.prim _⟩;have r3:(do eqGuard op t x y (.agg xs) (.agg ys);binOp op t (.agg xs) (.agg ys):Sem Value).run P w=.ok (.bool c) w:=by
     rw[run_bind,run_eqGuard_agg w op t x y xs ys a3];dsimp only;unfold M9 at hn;cases op<;>simp only[BL,reduceCtorEq]at hn
     ·subst hn;rw[run_eql_struct,run];rfl
     ·subst hn;rw[run_neq_struct,run];rfl
    rw[run_bind,r3];rfl
end
def Jt (tt:Nat->Option Az)(n k:Nat)(g:Operand->D):Op->Option (D×Au×Prop)
 | .makeSlice t l c=>match tt t with
  |some i=>match i.ti with
   | .slice e esz eby ez=>match g l with
    | .prim (.int _ a)=>match g c with
     | .prim (.int _ b)=>some (.osl k n esz 0 a.toNat,⟨k,n,e,esz,List.replicate a.toNat (ofV ez)⟩,0<=a/\a<=b/\(eby:Int)*b<=281474976710656/\b<=9223372036854775807)
     |_=>none
    |_=>none
   |_=>none
  |none=>none
 |_=>none
section
variable {C:A8} {F:Ab} {s:St} {ops:Array Oper} {o:Oper} {os:List Oper} {K:St->Prop} {ρ:Lk} {H:Hp} {w:World}
theorem XV {α:Type}{n i:Nat}{x d:α}(h:(List.replicate n x)[i]?=some d):i<n/\x=d:=by
 rw[List.getElem?_replicate]at h;split at h
 ·rename_i hi;exact⟨hi,Fc h⟩
 ·cases h
theorem nB {tt:Nat->Option Az}{g:Operand->D}{ev:Operand->Value}{n k:Nat}{d:D}{e':Au}{p:Prop}(htt:Ch C.P tt)(m:Ao C F ρ H w)(fr:∀k,ρ k n=none)(hlt:∀e∈H,e.g≠n)
  (hg:∀x,AU ρ (AM F.X ρ H) w (g x) (ev x)) (h:Jt tt n k g o.op=some (d,e',p)) (hp:p):
  ∃v ρ' w',(execOp ev o).run C.P w=.ok (.value v) w'/\Ip C F H ρ w n d (some e') v ρ' w':=by
 unfold Jt at h;split at h<;>try(cases h;done)
 rename_i t l c ho;split at h<;>try(cases h;done)
 rename_i i hi;split at h<;>try(cases h;done)
 rename_i e esz eby ez hk;split at h<;>try(cases h;done)
 rename_i kl a hl;split at h<;>try(cases h;done)
 rename_i kc b hc;cases h;obtain⟨h0,hab,hby,hmx⟩:=hp;obtain⟨k1,⟨inf,k2,rfl,rfl,k5⟩,k6,k7⟩:=EZ (htt _ _ hi) hk;have h1:=hg l;have h2:=hg c;rw[hl]at h1;rw[hc]at h2;generalize hvl:ev l=vl at h1;generalize hvc:ev c=vc at h2;cases h1;cases h2;have run:=run_make (P:=C.P) w t e inf ez k1 k2 k5 kl kc a b h0 hab hby hmx;have hcell:∀q,q<b.toNat*inf.size->(madeCells ez.cells (b.toNat*inf.size)).getD q undef=ez.cells.getD (q%inf.size) undef/\q%inf.size<ez.cells.size:=λq hq=>by
  have hpos:0<inf.size:=by
   rcases Db inf.size with h|h
   ·rw[h]at hq;simp at hq
   ·exact h
  have hm:q%ez.cells.size<ez.cells.size:=B5 _ (by omega);rw[k6]at hm;refine⟨?_,by omega⟩;unfold madeCells;simp only[Ax,Array.getElem?_map];rw[Bc (by simpa using hq)];simp only[Array.getElem_range,I5,IQ];rw[k6,getElem!_pos ez.cells (q%inf.size) (by omega),Bc (by omega)];rfl
 have hec:(ofV ez).cells.length=inf.size/\∀(j:Nat) (c:D),(ofV ez).cells[j]?=some c->c=.prim (ez.cells.getD j undef):=by
  cases ez
  case tuple vs=>
   have:=k7 0 (.tuple vs) rfl
   simp[Ide.one]at this
  case agg vs=>
   refine⟨by simp only[ofV,D.cells,Am,Hn];exact k6,λj c hc=>?_⟩;simp only[ofV,D.cells,A7,Iw,Option.map_eq_some_iff]at hc;obtain⟨x,hx,rfl⟩:=hc;show D.prim x=.prim (vs.getD j undef);rw[Ax,hx];rfl
  all_goals
   refine⟨k6,λj c hc=>?_⟩
   match j with
   | 0=>simp only[ofV,D.cells,RY,BL]at hc;subst hc;rfl
   |j+1=>simp[ofV,D.cells]at hc
 have hle:a.toNat<=b.toNat:=by omega
 have ho':DB ρ (AM F.X ρ H) w ⟨k,n,e,inf.size,List.replicate a.toNat (ofV ez)⟩ (madeCells ez.cells (b.toNat*inf.size)):=by
  refine⟨by simp only[L3,size_madeCells];exact CI _ hle,λq d hd=>?_,λq v hv=>?_,λq d j c hd hcj=>?_⟩
  ·obtain⟨_,rfl⟩:=XV hd
   exact hec.1
  ·have hq:q<b.toNat*inf.size:=by have:=(Array.getElem?_eq_some_iff.1 hv).1;rw[size_madeCells]at this;exact this
   obtain⟨c1,c2⟩:=hcell q hq;rw[Ax,hv,IQ,Ax,Bc c2,IQ]at c1;rw[c1];exact k7 _ _ (Bc c2)
  ·obtain⟨hq,rfl⟩:=XV hd
   have hj:j<inf.size:=by rw[<-hec.1];exact(List.getElem?_eq_some_iff.1 hcj).1
   rw[hec.2 j c hcj];dsimp only;have hlt2:q*inf.size+j<b.toNat*inf.size:=by
    have:(q+1)*inf.size<=b.toNat*inf.size:=CI _ (by omega)
    rw[Bu]at this;omega
   rw[(hcell _ hlt2).1,BS,Nat.mul_add_mod,Dc hj];exact .prim _
 obtain⟨m1,x1⟩:=m.alloc ⟨k,n,e,inf.size,List.replicate a.toNat (ofV ez)⟩ _ (fr k) (λe' he' h=>hlt e' he' h.2) ho';refine⟨.slice (some ⟨w.heap.size,0,none⟩) a.toNat b.toNat,ρ.put k n w.heap.size,_,?_,m1,x1,λk' g' hg=>by unfold Lk.put;rw[AG λh=>hg h.2],?_⟩
 ·unfold execOp
  simp only[ho,hvl,hvc];rw[run_bind,run];rfl
 ·exact Ow (b:=w.heap.size) (T:=e) (fz:=(0,0)) (EH _ _ _ _) (by rw[ED];exact AH rfl) hle (by rw[size_madeCells]) (by simp only[maxLen];omega)
theorem lj {tt:Nat->Option Az}{n k:Nat}{g:Operand->D}{op:Op}{d:D}{e:Au}{p:Prop}(h:Jt tt n k g op=some (d,e,p)):e.g=n:=by
 unfold Jt at h
 (repeat' split at h)<;>first|(cases h;done)|(cases h;rfl)
theorem dJ {tt:Nat->Option Az}(k:Nat)(htt:Ch C.P tt){d:D}{e':Au}{p:Prop}(hw:CD ops s.env o=some true)(he:Jt tt s.n k (BE s.env) o.op=some (d,e',p))(hp:p)
  (h:BH C F ops os ⟨BZ s.env o.dst d,e'::s.H,s.n+1⟩ K):BH C F ops (o::os) s K:=
 BH.step hw (λρ a w hs=>by
  obtain⟨v,ρ',w',h1,h2⟩:=nB htt hs.mem (λk=>hs.fresh k _ (Ai _)) (λe he=>Nat.ne_of_lt (hs.gen e he)) (DG hs.env) he hp;refine⟨v,ρ',w',.inl h1,⟨h2.mem,h2.ext,λk g hg=>by rw[h2.far k g (by omega)];exact hs.fresh k g (by omega),h2.rep⟩,λe he2=>?_⟩;rcases BA.1 he2 with rfl|he2
  ·have:=lj he;omega
  ·exact DE (hs.gen e he2)) h
theorem BH.l' {tt:Nat->Option Az}(k:Nat)(htt:Ch C.P tt){d:D}{ne:Option Au}{p:Prop}(hw:CD ops s.env o=some true)(he:EJ tt s.H s.n k (BE s.env) o.op=some (d,ne,p))(hp:p)
  (h:BH C F ops os ⟨BZ s.env o.dst d,Cs ne s.H,s.n+1⟩ K):BH C F ops (o::os) s K:=
 BH.step hw (λρ a w hs=>by
  obtain⟨v,ρ',w',h1,h2⟩:=Yw (λ_ h=>h) htt hs.mem (λk=>hs.fresh k _ (Ai _)) (λe he=>Nat.ne_of_lt (hs.gen e he)) (DG hs.env) he hp;refine⟨v,ρ',w',.inl h1,⟨h2.mem,h2.ext,λk g hg=>by rw[h2.far k g (by omega)];exact hs.fresh k g (by omega),h2.rep⟩,λe he'=>?_⟩;cases ne with
  |none=>exact DE (hs.gen e he')
  |some e'=>
   rcases BA.1 he' with rfl|he'
   ·have:=Xm he
    omega
   ·exact DE (hs.gen e he')) h
theorem BH.q {tt:Nat->Option Az}{xt:Nat->Option XI}(htt:Ch C.P tt)(hxt:Lp C.P xt){d:D}{p:Prop}(hw:CD ops s.env o=some true)(he:Fx tt xt (BE s.env) o.op=some (d,p))(hp:p)
  (h:BH C F ops os ⟨BZ s.env o.dst d,s.H,s.n+1⟩ K):BH C F ops (o::os) s K:=
 BH.step hw (λρ a w hs=>by
  obtain⟨v,h1,h2⟩:=Yy htt hxt (DG hs.env) he hp;exact⟨v,ρ,w,.inl h1,.pure hs h2,λe he=>DE (hs.gen e he)⟩) h
theorem Vi {f t:Nat}{name:String}{d0:D}{r:Operand}{args:Array Operand}{tys:Array Nat}{a:Act}(ho:o.op=.call ⟨.invoke r name,args,tys⟩)(hr:BE s.env r=.ifc t d0)
  (hm:∀v w,(method (C.P.types.size+Made.depth) t v name).run C.P w=.ok (f,v) w) (hcall:JC C.P f) (hs:Bj C F ρ s a w):
  ∃vs,(execOp a.eval o).run C.P w=.ok (.enter f vs) w/\vs.size=(d0::args.toList.map (BE s.env)).length /\
   ∀(i:Nat) (d:D),(d0::args.toList.map (BE s.env))[i]?=some d->AU ρ (AM F.X ρ s.H) w d (vs.getD i undef):=by
 have hrr:=DG hs.env r;rw[hr]at hrr;generalize hv:a.eval r=v at hrr;cases hrr with
 |ifc h0=>
  rename_i v0;refine⟨#[v0]++args.map a.eval,?_,by simp;omega,λi d hd=>?_⟩
  ·unfold execOp
   simp only[ho];rw[run_bind]
   have:(resolve a.eval ⟨.invoke r name,args,tys⟩ o.type).run C.P w=.ok { target:=.fn (.method name) #[],args:=#[.iface t v0]++args.map a.eval } w:=by
    unfold resolve;simp only[hv];rfl
   rw[this];dsimp only;unfold invoke;have g0:(#[Value.iface t v0]++args.map a.eval)[0]?=some (.iface t v0):=by rw[GN (by simp)];rfl
   have g1:(#[Value.iface t v0]++args.map a.eval).extract 1 (#[Value.iface t v0]++args.map a.eval).size=args.map a.eval:=by
    apply Array.ext_getElem?;intro q;rw[Array.getElem?_extract];simp only[I4,Jn,Bo,Gg,Array.size_map];rw[GM (by simp)];simp only[Jn,Bo,Gg];split
    ·congr 1;omega
    ·rw[O7 (by simp;omega)]
   simp only[g0,g1];unfold callMethod;simp only[];rw[run_bind,PU];dsimp only;rw[run_bind,hm];dsimp only;exact Rw hcall _ w
  ·cases i with
   |zero=>
    simp at hd;subst hd
    have:(#[v0]++args.map a.eval).getD 0 undef=v0:=by rw[Ax,GN (by simp)];rfl
    rw[this];exact h0
   |succ i=>
    simp only[Jo,A7,Iw,Option.map_eq_some_iff]at hd;obtain⟨x,hx,rfl⟩:=hd
    have:(#[v0]++args.map a.eval).getD (i+1) undef=a.eval x:=by
     simp only[Ax];rw[GM (by simp)];simp[hx]
    rw[this];exact DG hs.env x
theorem wh {f t:Nat}{name:String}{d0:D}{ds:List D}{r:Operand}{args:Array Operand}{tys:Array Nat}{Φ:D->Hp->Nat->Prop}(hw:CD ops s.env o=some true)(ho:o.op=.call ⟨.invoke r name,args,tys⟩)(hr:BE s.env r=.ifc t d0)
  (hm:∀v w,(method (C.P.types.size+Made.depth) t v name).run C.P w=.ok (f,v) w) (hds:d0::args.toList.map (BE s.env)=ds) (hc:CO C f ds s.H s.n Φ)
  (h:∀d H' n',Φ d H' n'->BH C F ops os ⟨BZ s.env o.dst d,H',n'⟩ K):BH C F ops (o::os) s K:=by
 intro hd l hl ρ a w hs;cases l with
 |nil=>simp at hl
 |cons i l=>
  simp only[Cc,Ek]at hl;simp only[Fs,Ba]at hd;obtain⟨vs,h1,h2,h3⟩:=Vi ho hr hm hc.1 hs;rw[hds]at h2 h3;simp only[wpOps,hl.1];rw[AH (LK hs.env hw)];refine .inl ?_;unfold Oper.wp;rw[h1];refine(hc.2 F ρ w vs hs.mem hs.fresh hs.gen h2 h3).mono ?_;rintro e w' ⟨v,d,H',n',ρ',rfl,hΦ,m,x,fr,g,r⟩;exact h d H' n' hΦ hd.2 l hl.2 ρ' (a.put o.dst v) w' (hs.put m x fr g r hd.1)
structure oT (es:Array MapEntry)(clock:Nat)(ks vs:List D):Prop where
 hB:JN es clock
 h1:es.size=ks.length
 h2:es.size=vs.length
 hk:∀(i:Nat) (d:D),ks[i]?=some d->∀ρ O w,AU ρ O w d (es.getD i default).key
 hv:∀(i:Nat) (d:D),vs[i]?=some d->∀ρ O w,AU ρ O w d (es.getD i default).val
theorem JN.push {es:Array MapEntry}{clock:Nat}(h:JN es clock)(k v:Value):JN (es.push { key:=k,val:=v,born:=clock }) (clock+1):=by
 refine⟨λi e he=>?_,λi j e e' he he' hb=>?_⟩
 ·rw[Ox]at he
  split at he
  ·cases he;exact HF _
  ·exact DE (h.1 i e he)
 ·rw[Ox]at he he'
  split at he<;>split at he'
  ·omega
  ·cases he
   have:=h.1 j e' he'
   simp only at hb;omega
  ·cases he'
   have:=h.1 i e he
   simp only at hb;omega
  ·exact h.2 i j e e' he he' hb
def VC (C:A8)(F:Ab)(ops:Array Oper)(os:List Oper)(m:Nat)(ks vs:List D)(s:St)(K:St->Prop):Prop:=
 os.all (DC F.nt)=true->∀(l:List Nat),l.map (ops[·]?)=os.map some->∀ρ a w es clock,Bj C F ρ s a w->a.tmps.getD m undef=.map (some w.heap.size)->m<a.tmps.size->oT es clock ks vs ->
  wpOps C.P ops (Jz C F K) l a (w.alloc (.map es clock))
theorem VC.done {m:Nat}{ks vs:List D}(h:BH C F ops os ⟨BZ s.env (some m) (.mp ks vs),s.H,s.n⟩ K):VC C F ops os m ks vs s K:=by
 intro hds l hl ρ a w es clock hs hm hlt hr;have hO:¬AM F.X ρ s.H w.heap.size:=λh'=>AZ (hs.mem.own_lt h') (Nat.lt_irrefl _)
 have x:=BQ.allocPure (ρ:=ρ) (F:=F) (H:=s.H) (w:=w) (.map es clock);refine h hds l hl ρ a _ ⟨hs.mem.allocPure _,hs.fresh,hs.gen,λt=>?_,hs.nt,hs.dfr⟩;show AU _ _ _ (Ar.get ((m,.mp ks vs)::s.env) t) _;rw[IL]
 by_cases ht:m=t
 ·subst ht
  rw[AH rfl,hm];exact .mp hO (by simp) (by rw[ED,AH rfl]) hr.h1 hr.h2 hr.hB (λi d hd=>hr.hk i d hd _ _ _) (λi d hd=>hr.hv i d hd _ _ _)
 ·rw[AG ht];exact(hs.env t).mono x
def KK (C:A8)(f:Nat)(ds:List D)(d:D):Prop:=∀(ρ:Lk) (O:Nat->Prop) (w:World) (vs:Array Value),vs.size=ds.length->(∀(i:Nat) (x:D),ds[i]?=some x->AU ρ O w x (vs.getD i undef)) ->
 ∃v,(callFunc f vs).run C.P w=.ok (.value v) w/\AU ρ O w d v
theorem VO {f:Nat}{g:Operand->D}{O:Nat->Prop}{first captured:List D}{fop:Operand}{args:Array Operand}{tys:Array Nat}{ρ:Lk}{a:Act}{w:World}(ho:o.op=.call ⟨.value fop,args,tys⟩)
  (hf:g fop=.clo (.func f) first captured) (hg:∀x,AU ρ O w (g x) (a.eval x)):
  ∃vs,(execOp a.eval o).run C.P w=(callFunc f vs).run C.P w/\vs.size=(first++args.toList.map g++captured).length /\
   ∀(i:Nat) (d:D),(first++args.toList.map g++captured)[i]?=some d->AU ρ O w d (vs.getD i undef):=by
 have hfr:=hg fop;rw[hf]at hfr;generalize hv:a.eval fop=v at hfr;cases hfr with
 |clo hn hc h1 h2=>
  rename_i fs cs;refine⟨fs++args.map a.eval++cs,?_,by simp[hn,hc],λi d hd=>?_⟩
  ·unfold execOp
   simp only[ho];rw[run_bind]
   have:(resolve a.eval ⟨.value fop,args,tys⟩ o.type).run C.P w=.ok { target:=.fn (.func f) cs,args:=fs++args.map a.eval } w:=by
    unfold resolve;simp only[hv];rfl
   rw[this];dsimp only;unfold invoke;rfl
  ·rw[Do]at hd
   rcases BG i first.length with hi|hi
   ·rw[GO hi]at hd
    have:(fs++args.map a.eval++cs).getD i undef=fs.getD i undef:=by
     simp only[Ax];rw[L5,GN (by omega)]
    rw[this];exact h1 i d hd
   ·rw[Ey hi]at hd
    rcases BG (i-first.length) args.size with hj|hj
    ·rw[GO (by simpa using hj)]at hd
     simp at hd;obtain⟨x,hx,rfl⟩:=hd
     have:(fs++args.map a.eval++cs).getD i undef=a.eval x:=by
      simp only[Ax];rw[L5,GM (by omega),GN (by simp;omega),hn];simp[hx]
     rw[this];exact hg x
    ·rw[Ey (by simpa using hj)]at hd
     have:(fs++args.map a.eval++cs).getD i undef=cs.getD (i-first.length-args.size) undef:=by
      simp only[Ax];rw[L5,GM (by omega),GM (by simp;omega),hn];simp
     rw[this];exact h2 _ d (by simpa using hd)
theorem BH.nat {f:Nat}{first captured ds:List D}{fop:Operand}{args:Array Operand}{tys:Array Nat}{d:D}(hw:CD ops s.env o=some true)(ho:o.op=.call ⟨.value fop,args,tys⟩)
  (hf:BE s.env fop=.clo (.func f) first captured) (hds:first++args.toList.map (BE s.env)++captured=ds) (hc:KK C f ds d)
  (h:BH C F ops os ⟨BZ s.env o.dst d,s.H,s.n+1⟩ K):BH C F ops (o::os) s K:=
 BH.step hw (λρ a w hs=>by
  obtain⟨vs,h1,h2,h3⟩:=VO (C:=C) (a:=a) ho hf (DG hs.env);rw[hds]at h2 h3;obtain⟨v,h4,h5⟩:=hc _ _ _ vs h2 h3;exact⟨v,ρ,w,.inl (h1.trans h4),.pure hs h5,λe he=>DE (hs.gen e he)⟩) h
theorem B3.nat {H:Hp}{g f:Nat}{env:Ar}{first captured ds:List D}{fop:Operand}{args:Array Operand}{tys:Array Nat}{d:D}(hw:CD ops env o=some true)(ho:o.op=.call ⟨.value fop,args,tys⟩)
  (hf:BE env fop=.clo (.func f) first captured) (hds:first++args.toList.map (BE env)++captured=ds) (hc:KK C f ds d):B3 C F ops H g env o d none:=by
 refine⟨by simp,λHe ρ a w m hsub fr hne hr=>.inr ⟨Gx hr hw,.inl ?_⟩⟩;obtain⟨g',h1,h2⟩:=HQ hr;have hfop:fop∈o.op.operands:=by rw[ho];simp[Op.operands,Call.operands]
 have harg:∀x∈args.toList,BE env x=g' x:=λx hx=>h1 x (by rw[ho];simp[Op.operands,Call.operands];right;simpa using hx)
 rw[h1 fop hfop]at hf;rw[Kz harg]at hds;obtain⟨vs,q1,q2,q3⟩:=VO (C:=C) (g:=g') ho hf h2;rw[hds]at q2 q3;obtain⟨v,h4,h5⟩:=hc _ _ _ vs q2 q3;exact⟨v,ρ,w,q1.trans h4,m,.refl _ _ _,λ_ _ _=>rfl,h5⟩
end
def bj (op:BinOp)(k k':IntKind)(b:Int):Bool:=match op with
 | .quo | .rem=>decide (k=k') && !(decide (b=0))
 | .shl | .shr=>decide (0<=b)
 |_=>decide (k=k')
def Rm (op:BinOp)(x y:Value):Bool:=match x,y with
 | .int k _,.int k' b=>bj op k k' b
 | .string a,.string b=>match op with
  | .add=>Nat.ble (a.size+b.size) 9223372036854775807
  |_=>true
 |_,_=>true
theorem aB {op:BinOp}{x y v:Value}{p:Prop}(h:M3 op x y=some (v,p))(hk:Rm op x y=true):p:=by
 unfold M3 at h;unfold Rm at hk;split at h
 ·dsimp only at hk
  unfold bj at hk;cases op<;>simp only[BL,Bg]at h<;>obtain⟨_,rfl⟩:=h<;>simpa using hk
 ·cases op<;>simp only[BL,Bg,reduceCtorEq]at h<;>obtain⟨_,rfl⟩:=h<;>first|trivial|(dsimp only at hk;exact Bh hk)
 ·cases h
def U5 (ti:TI)(x y:D):Bool:=match ti,x,y with
 | .slice ..,.sl false _ es,.prim (.slice none _ _)=>!es.isEmpty
 |_,_,_=>true
theorem tM {ti:TI}{x y:D}{b:Bool}{p:Prop}(h:L7 ti x y=some (b,p))(hk:U5 ti x y=true):p:=by
 unfold L7 at h;split at h<;>try(cases h;done)
 all_goals(simp only[BL,Bg]at h;obtain⟨_,rfl⟩:=h)
 all_goals first
  |trivial
  |(simp only[U5]at hk;intro he;subst he;simp at hk)
def UQ (tt:Nat->Option Az)(op:BinOp)(t:Nat)(x y:D):Bool:=match x,y with
 | .prim (.int k a),.prim (.int k' b)=>Rm op (.int k a) (.int k' b)
 | .prim (.string a),.prim (.string b)=>Rm op (.string a) (.string b)
 |x,y=>match tt t with
  |some i=>U5 i.ti x y
  |none=>true
theorem kM {tt:Nat->Option Az}{op:BinOp}{t:Nat}{x y d:D}{p:Prop}(h:Oh tt op t x y=some (d,p))(hk:UQ tt op t x y=true):p:=by
 unfold Oh at h;unfold UQ at hk;split at h
 ·dsimp only at hk
  split at h<;>try(cases h;done)
  rename_i hb;cases h;exact aB hb hk
 ·dsimp only at hk
  split at h<;>try(cases h;done)
  rename_i hb;cases h;exact aB hb hk
 ·rename_i h1 h2
  split at hk
  ·exact AZ rfl (h1 _ _ _ _ rfl)
  ·exact AZ rfl (h2 _ _ rfl)
  ·split at h<;>try(cases h;done)
   rename_i i hi;split at h<;>try(cases h;done)
   rename_i b q hb;split at h<;>try(cases h;done)
   cases h;rw[hi]at hk;exact tM hb hk
def Mw (ag:Bool)(sz:Nat)(d:D):Bool:=match ag with
 |true=>match d with
  | .agg ds=>Nat.beq ds.length sz
  |_=>false
 |false=>Nat.beq sz 1&&d.one
theorem Nr {ag:Bool}{sz:Nat}{d:D}(h:Mw ag sz d=true):Bp ag sz d:=by
 unfold Mw at h;split at h
 ·split at h
  ·rw[<-B4 h];exact Bp.agg
  ·cases h
 ·simp only[Ba]at h
  rw[B4 h.1];exact CU h.2
def Qh (fs:List (Nat×Nat×Bool))(g:Operand->D):List (Nat×Operand)->List D->Bool
 | [],_=>true
 |(i,x)::r,cs=>match fs[i]? with
  |some (o,sz,ag)=>Mw ag sz (g x)&&Nat.ble (o+sz) cs.length&&Qh fs g r (Ew cs o (Em ag (g x)))
  |none=>true
theorem Wn {fs:List (Nat×Nat×Bool)}{g:Operand->D}:∀ {ps:List (Nat×Operand)} {cs cs':List D} {p:Prop},Gz fs g ps cs=some (cs',p)->Qh fs g ps cs=true->p
 | [],cs,cs',p,h,_=>by simp only[Gz,BL,Bg]at h;obtain⟨_,rfl⟩:=h;trivial
 |(i,x)::r,cs,cs',p,h,hk=>by
  simp only[Gz]at h;simp only[Qh]at hk;cases hf:fs[i]? with
  |none=>simp[hf]at h
  |some q=>
   obtain⟨o,sz,ag⟩:=q;simp only[hf]at h hk;cases hr:Gz fs g r (Ew cs o (Em ag (g x)))with
   |none=>simp[hr]at h
   |some q=>
    obtain⟨c2,p2⟩:=q;simp only[hr,BL,Bg]at h;obtain⟨_,rfl⟩:=h;simp only[Ba]at hk;exact⟨⟨Nr hk.1.1,Bh hk.1.2⟩,Wn hr hk.2⟩
def Om (n:Nat):D->Bool
 | .prim (.int _ x)=>decide (0<=x)&&decide (x<=n)
 |_=>true
theorem QG {n m:Nat}{d:D}{p:Prop}(h:KV n d=some (m,p))(hk:Om n d=true):p:=by
 unfold KV at h;split at h
 ·simp only[BL,Bg]at h;obtain⟨_,rfl⟩:=h
  simpa[Om]using hk
 ·cases h
def OT (n:Nat)(lo hi:Option D):Bool:=match hi with
 |none=>match lo with
  |none=>true
  |some l=>Om n l
 |some h=>Om n h&&(match KV n h with
  |some (m,_)=>match lo with
   |none=>true
   |some l=>Om m l
  |none=>true)
theorem Sq {n a b:Nat}{lo hi:Option D}{p:Prop}(h:H8 n lo hi=some (a,b,p))(hk:OT n lo hi=true):p:=by
 unfold H8 at h;unfold OT at hk;cases hi with
 |none=>
  cases lo with
  |none=>simp only[BL,Bg]at h;obtain⟨_,_,rfl⟩:=h;trivial
  |some l=>
   dsimp only at h hk;split at h<;>try(cases h;done)
   rename_i hb;cases h;exact QG hb hk
 |some hh=>
  dsimp only at h hk;simp only[Ba]at hk;split at h<;>try(cases h;done)
  rename_i m q hb;rw[hb]at hk;cases lo with
  |none=>cases h;exact QG hb hk.1
  |some l=>
   dsimp only at h hk;split at h<;>try(cases h;done)
   rename_i hb2;cases h;exact⟨QG hb hk.1,QG hb2 hk.2⟩
def S6 (tt:Nat->Option Az)(t:Nat)(x:D)(lo hi:Option D):Bool:=match tt t with
 |some i=>match i.ti,x with
  | .string,.prim (.string s)=>OT s.size lo hi
  | .slice _ esz _ _,.sl _ sz es=>OT es.length lo hi&&Nat.beq esz sz
  | .slice _ esz _ _,.osl _ _ sz _ len=>OT len lo hi&&Nat.beq esz sz&&(match H8 len lo hi with
   |some (l,h,_)=>Nat.blt l h||Nat.beq l 0
   |none=>true)
  |_,_=>true
 |none=>true
theorem g9 {tt:Nat->Option Az}{t:Nat}{x d:D}{lo hi:Option D}{p:Prop}(h:OJ tt t x lo hi=some (d,p))(hk:S6 tt t x lo hi=true):p:=by
 unfold OJ at h;unfold S6 at hk;cases hi':tt t with
 |none=>simp[hi']at h
 |some i=>
  simp only[hi']at h hk;split at h<;>try(cases h;done)
  ·rename_i hti
   simp only[hti]at hk;split at h<;>try(cases h;done)
   rename_i hb;cases h;exact Sq hb hk
  ·rename_i hti
   simp only[hti,Ba]at hk;split at h<;>try(cases h;done)
   rename_i hb;cases h;exact⟨Sq hb hk.1,B4 hk.2⟩
  ·rename_i hti
   simp only[hti,Ba]at hk;split at h<;>try(cases h;done)
   rename_i l hh q hb;cases h;simp only[hb]at hk;refine⟨Sq hb hk.1.1,B4 hk.1.2,?_⟩
   have:=hk.2
   simp only[L1]at this;exact this.imp Nat.blt_eq.mp B4
theorem WN {k:IntKind}:∀ {r:List D} {a:Int} {d:D} {p:Prop},KO k a r=some (d,p)->p
 | [],a,d,p,h=>by simp only[KO,BL,Bg]at h;obtain⟨_,rfl⟩:=h;trivial
 |x::r,a,d,p,h=>by
  unfold KO at h;split at h
  ·rename_i h1;cases h1
  ·rename_i h1;cases h1;exact WN h
  ·cases h
theorem WM {k:IntKind}:∀ {r:List D} {a:Int} {d:D} {p:Prop},KN k a r=some (d,p)->p
 | [],a,d,p,h=>by simp only[KN,BL,Bg]at h;obtain⟨_,rfl⟩:=h;trivial
 |x::r,a,d,p,h=>by
  unfold KN at h;split at h
  ·rename_i h1;cases h1
  ·rename_i h1;cases h1;exact WM h
  ·cases h
theorem fk {tt:Nat->Option Az}{b:Builtin}{tys:List Nat}{args:List D}{d:D}{p:Prop}(h:Nq tt b tys args=some (d,p)):p:=by
 unfold Nq at h
 (repeat' split at h)<;>first|(cases h;done)|(cases h;trivial)|exact WN h|exact WM h
def L9 (tt:Nat->Option Az)(g:Operand->D):Op->Bool
 | .pick c a b=>match g c with
  | .prim (.bool true)=>(G6 (g a)).2
  | .prim (.bool false)=>(G6 (g b)).2
  |_=>true
 | .build t ps=>match tt t with
  |some i=>match QH i.ti with
   |some fs=>Qh fs g ps.toList (i.zero.cells.toList.map .prim)
   |none=>true
  |none=>true
 | .binOp op t x y _=>UQ tt op t (g x) (g y)
 | .slice t x lo hi none=>S6 tt t (g x) (lo.map g) (hi.map g)
 | .indexAddr t x ix=>match tt t with
  |some i=>match i.ti,g ix with
   | .arr n _ _,.prim (.int _ j)=>decide (0<=j)&&decide (j<n)
   | .slice _ esz _ _,.prim (.int _ j)=>match g x with
    | .osl _ _ sz _ len=>decide (0<=j)&&decide (j<len)&&Nat.beq esz sz
    |_=>true
   |_,_=>true
  |none=>true
 | .index t x ix=>match tt t with
  |some i=>match i.ti,g x,g ix with
   | .string,.prim (.string s),.prim (.int _ j)=>decide (0<=j)&&decide (j<s.size)
   |_,_,_=>true
  |none=>true
 |_=>true
theorem Z8 {tt:Nat->Option Az}{g:Operand->D}{op:Op}{d:D}{p:Prop}(h:GS tt g op=some (d,p))(hk:L9 tt g op=true):p:=by
 unfold GS at h;split at h<;>try(cases h;done)
 ·cases h;trivial
 ·cases h;trivial
 ·rename_i c a b
  simp only[L9]at hk;split at h<;>try(cases h;done)
  rename_i t hc;rw[hc]at hk;cases h;cases t
  ·exact⟨λh=>(by cases h),λ_=>hk⟩
  ·exact⟨λ_=>hk,λh=>(by cases h)⟩
 ·rename_i t ps
  simp only[L9]at hk;unfold OF at h;split at h<;>try(cases h;done)
  rename_i i hi;simp only[hi]at hk;split at h<;>try(cases h;done)
  rename_i fs hf;simp only[hf]at hk;split at h<;>try(cases h;done)
  rename_i hfl;cases h;exact Wn hfl hk
 ·split at h<;>first|(cases h;done)|(cases h;trivial)
 ·exact kM h hk
 ·split at h<;>first|(cases h;done)|(cases h;trivial)
 ·split at h<;>try(cases h;done)
  split at h<;>first|(cases h;done)|(cases h;trivial)
 ·cases h;trivial
 ·exact g9 h hk
 ·(repeat' split at h)<;>first|(cases h;done)|(cases h;trivial)
 ·(repeat' split at h)<;>first|(cases h;done)|(cases h;trivial)
 ·rename_i t x ix
  simp only[L9]at hk;split at h<;>try(cases h;done)
  rename_i i hi;simp only[hi]at hk;split at h<;>try(cases h;done)
  ·rename_i h1 h2
   simp only[h1,h2]at hk;split at h<;>try(cases h;done)
   cases h;simpa using hk
  ·rename_i h1 h2
   simp only[h1,h2]at hk;split at h<;>try(cases h;done)
   rename_i h3;cases h;simp only[h3,Ba,Gk]at hk;exact⟨hk.1.1,hk.1.2,B4 hk.2⟩
 ·rename_i t x ix
  simp only[L9]at hk;split at h<;>try(cases h;done)
  rename_i i hi;simp only[hi]at hk;split at h<;>try(cases h;done)
  rename_i h1 h2 h3;simp only[h1,h2,h3]at hk;cases h;simpa using hk
 ·(repeat' split at h)<;>first|(cases h;done)|(cases h;trivial)
 ·exact fk h
def Mz (ag:Bool)(sz:Nat):List D->Bool
 | []=>true
 |d::l=>Mw ag sz d&&Mz ag sz l
theorem W4 {ag:Bool}{sz:Nat}:∀ {l:List D},Mz ag sz l=true->QX ag sz l
 | [],_=>trivial
 | [d],h=>by simp only[Mz,Ba]at h;exact Nr h.1
 |d::d'::l,h=>by simp only[Mz,Ba]at h;exact⟨Nr h.1,W4 (by simp only[Mz,Ba];exact h.2)⟩
def Jx (tt:Nat->Option Az)(H:Hp)(g:Operand->D):Op->Bool
 | .load t x=>match tt t with
  |some i=>match g x with
   | .optr k gg sz j off=>match Hp.get H k with
    |some e=>match e.es[j]? with
     |some d=>Nat.beq gg e.g&&Nat.beq sz e.sz&&(bif i.ag then Nat.ble (off+i.sz) d.cells.length else true)
     |none=>true
    |none=>true
   | .pptr d=>match i.ag with
    |true=>match d with
     | .agg ds=>Nat.beq ds.length i.sz
     |_=>true
    |false=>JR d
   |_=>true
  |none=>true
 | .box t x=>match tt t with
  |some i=>Mw i.ag i.sz (g x)
  |none=>true
 | .buildSlice t len ps=>match tt t with
  |some i=>match i.ti with
   | .slice e esz _ _=>match len with
    | 0=>true
    |len+1=>match tt e with
     |some ie=>match Ij g 0 ps.toList with
      |some es=>Mz ie.ag esz es&&Nat.beq es.length (len+1)&&Nat.ble ((len+1)*esz) 16777216&&Nat.ble 1 esz
      |none=>true
     |none=>true
   |_=>true
  |none=>true
 |_=>true
theorem Tt {tt:Nat->Option Az}{H:Hp}{n k:Nat}{g:Operand->D}{op:Op}{d:D}{ne:Option Au}{p:Prop}(h:EJ tt H n k g op=some (d,ne,p))(hk:Jx tt H g op=true):p:=by
 unfold EJ at h;split at h<;>try(cases h;done)
 ·simp only[Jx]at hk
  split at h<;>try(cases h;done)
  rename_i i hi;simp only[hi]at hk;split at h<;>try(cases h;done)
  ·rename_i h1
   simp only[h1]at hk;split at h<;>try(cases h;done)
   rename_i e he;simp only[he]at hk;split at h<;>try(cases h;done)
   rename_i d1 hd;simp only[hd]at hk;split at h<;>try(cases h;done)
   cases h;simp only[Ba]at hk;exact⟨B4 hk.1.1,B4 hk.1.2,hk.2⟩
  ·rename_i h1
   simp only[h1]at hk;split at h
   ·rename_i ha
    simp only[ha]at hk;split at h<;>try(cases h;done)
    cases h;exact hk
   ·rename_i ha
    simp only[ha]at hk;cases h;exact hk
 ·split at h<;>first|(cases h;done)|(cases h;trivial)
 ·simp only[Jx]at hk
  split at h<;>try(cases h;done)
  rename_i i hi;simp only[hi]at hk;cases h;exact Nr hk
 ·simp only[Jx]at hk
  split at h<;>try(cases h;done)
  rename_i i hi;simp only[hi]at hk;split at h<;>try(cases h;done)
  rename_i h1;simp only[h1]at hk;split at h
  ·split at h<;>first|(cases h;done)|(cases h;trivial)
  ·dsimp only at hk
   split at h<;>try(cases h;done)
   rename_i h2;simp only[h2]at hk;split at h<;>try(cases h;done)
   rename_i h3;simp only[h3,Ba]at hk;cases h;exact⟨W4 hk.1.1.1,B4 hk.1.1.2,hk.1.2,hk.2⟩
def Rl (tt:Nat->Option Az)(H:Hp)(g:Operand->D):Op->Bool
 | .store t x y=>match tt t with
  |some i=>match g x with
   | .optr k gg sz _ off=>match Hp.get H k with
    |some e=>Mw i.ag i.sz (g y)&&Nat.beq gg e.g&&Nat.beq sz e.sz&&Nat.ble (off+i.sz) e.sz
    |none=>true
   |_=>true
  |none=>true
 |_=>true
theorem aA {tt:Nat->Option Az}{H:Hp}{g:Operand->D}{op:Op}{k:Nat}{e':Au}{p:Prop}(h:E5 tt H g op=some (k,e',p))(hk:Rl tt H g op=true):p:=by
 unfold E5 at h;split at h<;>try(cases h;done)
 simp only[Rl]at hk;split at h<;>try(cases h;done)
 rename_i i hi;simp only[hi]at hk;split at h<;>try(cases h;done)
 rename_i h1;simp only[h1]at hk;split at h<;>try(cases h;done)
 rename_i h2;simp only[h2,Ba]at hk;split at h<;>try(cases h;done)
 cases h;exact⟨Nr hk.1.1.1,B4 hk.1.1.2,B4 hk.1.2,hk.2⟩
def UR (H:Hp)(esz:Nat):D->Bool
 | .sl _ sz _=>Nat.beq sz esz
 | .osl k g sz i len=>match Hp.get H k with
  |some e=>Nat.beq g e.g&&Nat.beq sz e.sz&&Nat.beq sz esz&&Nat.ble (i+len) e.es.length
  |none=>true
 |_=>true
theorem W5 {H:Hp}{esz:Nat}{d:D}{es:List D}{p:Prop}(h:Hg H esz d=some (es,p))(hk:UR H esz d=true):p:=by
 unfold Hg at h;split at h<;>try(cases h;done)
 ·cases h;exact B4 hk
 ·simp only[UR]at hk
  split at h<;>try(cases h;done)
  rename_i h1;simp only[h1,Ba]at hk;cases h;exact⟨B4 hk.1.1.1,B4 hk.1.1.2,B4 hk.1.2,Bh hk.2⟩
 ·cases h;trivial
def PD (tt:Nat->Option Az)(H:Hp)(g:Operand->D):Op->Bool
 | .call ⟨.builtin .append,args,tys⟩=>match args.toList with
  | [s,x]=>match tys.toList with
   | [t,_]=>match tt t with
    |some i=>match i.ti with
     | .slice e esz eby _=>UR H esz (g x)&&Nat.ble 1 eby&&Nat.ble 1 esz&&(match Hg H esz (g x)with
      |some (news,_)=>match g s with
       | .osl k1 g1 sz _ len=>match Hp.get H k1 with
        |some e1=>Nat.beq g1 e1.g&&Nat.beq sz e1.sz&&Nat.beq sz esz&&Nat.beq e1.T e&&Nat.ble len e1.es.length&&Nat.ble ((len+news.length)*eby) 140737488355328
        |none=>true
       |_=>Nat.ble (news.length*eby) 140737488355328
      |none=>true)
     |_=>true
    |none=>true
   |_=>true
  |_=>true
 |_=>true
theorem Ts {tt:Nat->Option Az}{H:Hp}{n k:Nat}{g:Operand->D}{op:Op}{d:D}{H':Hp}{p:Prop}(h:D1 tt H n k g op=some (d,H',p))(hk:PD tt H g op=true):p:=by
 unfold D1 at h;split at h<;>try(cases h;done)
 simp only[PD]at hk;split at h<;>try(cases h;done)
 rename_i h1;simp only[h1]at hk;split at h<;>try(cases h;done)
 rename_i h2;simp only[h2]at hk;split at h<;>try(cases h;done)
 split at h<;>try(cases h;done)
 rename_i h3;simp only[h3]at hk;split at h<;>try(cases h;done)
 rename_i h4;simp only[h4]at hk;split at h<;>try(cases h;done)
 rename_i h5;simp only[h5,Ba]at hk;obtain⟨⟨⟨k1,k2⟩,k3⟩,k4⟩:=hk;split at h<;>try(cases h;done)
 ·rename_i h6
  simp only[h6]at k4;split at h<;>try(cases h;done)
  rename_i h7;simp only[h7,Ba]at k4;cases h;exact⟨W5 h5 k1,B4 k4.1.1.1.1.1,B4 k4.1.1.1.1.2,B4 k4.1.1.1.2,B4 k4.1.1.2,Bh k4.1.2,Bh k4.2,
   Bh k2,Bh k3⟩
 ·rename_i h6
  simp only[h6]at k4;cases h;exact⟨W5 h5 k1,Bh k4,Bh k2,Bh k3⟩
def U6 (tt:Nat->Option Az)(g:Operand->D):Op->Bool
 | .makeSlice t l c=>match tt t with
  |some i=>match i.ti with
   | .slice _ _ eby _=>match g l with
    | .prim (.int _ a)=>match g c with
     | .prim (.int _ b)=>decide (0<=a)&&decide (a<=b)&&decide ((eby:Int)*b<=281474976710656)&&decide (b<=9223372036854775807)
     |_=>true
    |_=>true
   |_=>true
  |none=>true
 |_=>true
theorem sO {tt:Nat->Option Az}{n k:Nat}{g:Operand->D}{op:Op}{d:D}{e:Au}{p:Prop}(h:Jt tt n k g op=some (d,e,p))(hk:U6 tt g op=true):p:=by
 unfold Jt at h;split at h<;>try(cases h;done)
 simp only[U6]at hk;split at h<;>try(cases h;done)
 rename_i h1;simp only[h1]at hk;split at h<;>try(cases h;done)
 rename_i h2;simp only[h2]at hk;split at h<;>try(cases h;done)
 rename_i h3;simp only[h3]at hk;split at h<;>try(cases h;done)
 rename_i h4;simp only[h4,Ba,Gk]at hk;cases h;exact⟨hk.1.1.1,hk.1.1.2,hk.1.2,hk.2⟩
def Rk (xt:Nat->Option XI)(g:Operand->D):Op->Bool
 | .binOp _ t x _ _=>match xt t with
  |some (.strs n)=>match g x with
   | .agg l=>Nat.beq l.length n
   |_=>true
  |_=>true
 |_=>true
theorem Z9 {tt:Nat->Option Az}{xt:Nat->Option XI}{g:Operand->D}{op:Op}{d:D}{p:Prop}(h:Fx tt xt g op=some (d,p))(hk:Rk xt g op=true):p:=by
 unfold Fx at h;split at h<;>try(cases h;done)
 ·(repeat' split at h)<;>first|(cases h;done)|(cases h;trivial)
 ·(repeat' split at h)<;>first|(cases h;done)|(cases h;trivial)
 ·simp only[Rk]at hk
  split at h<;>try(cases h;done)
  rename_i h1;simp only[h1]at hk;split at h<;>try(cases h;done)
  rename_i h2;simp only[h2]at hk;split at h<;>try(cases h;done)
  split at h<;>try(cases h;done)
  split at h<;>try(cases h;done)
  cases h;exact hk
def Gn {α:Type}(n:Nat)(k:Nat->α):α:=match n with
 | 0=>k 0
 |m+1=>k (m+1)
def de {α:Type}(z:Int)(k:Int->α):α:=match z with
 | .ofNat n=>match n with
  | 0=>k (.ofNat 0)
  |m+1=>k (.ofNat (m+1))
 | .negSucc n=>match n with
  | 0=>k (.negSucc 0)
  |m+1=>k (.negSucc (m+1))
def Rh {α:Type}:List UInt8->(List UInt8->α)->α
 | [],k=>k []
 |b::l,k=>Gn b.toNat λn=>Rh l λl'=>k (UInt8.ofNat n::l')
def Uz {α:Type}(v:Value)(k:D->α):α:=match v with
 | .int kd z=>de z λz'=>k (.prim (.int kd z'))
 | .bool b=>match b with
  |true=>k (.prim (.bool true))
  |false=>k (.prim (.bool false))
 | .string s=>Rh s.data.toList λl=>k (.prim (.string ⟨l.toArray⟩))
 |v=>k (.prim v)
def Kv {α:Type}(d:D)(k:D->α):α:=match d with
 | .prim v=>Uz v k
 | .osl a g sz i len=>Gn a λa=>Gn g λg=>Gn i λi=>Gn len λlen=>k (.osl a g sz i len)
 | .optr a g sz i off=>Gn a λa=>Gn g λg=>Gn i λi=>Gn off λoff=>k (.optr a g sz i off)
 |d=>k d
def NP {α:Type}:List D->(List D->α)->α
 | [],k=>k []
 |d::l,k=>Kv d λd'=>NP l λl'=>k (d'::l')
def NO {α:Type}(d:D)(k:D->α):α:=match d with
 | .agg l=>NP l λl'=>k (.agg l')
 | .tup l=>NP l λl'=>k (.tup l')
 | .sl nn sz es=>NP es λes'=>k (.sl nn sz es')
 |d=>Kv d k
theorem LU {α:Type}(n:Nat)(k:Nat->α):Gn n k=k n:=by cases n<;>rfl
theorem sq {α:Type}(z:Int)(k:Int->α):de z k=k z:=by
 cases z with
 |ofNat n=>cases n<;>rfl
 |negSucc n=>cases n<;>rfl
theorem ak {α:Type}:∀(l:List UInt8) (k:List UInt8->α),Rh l k=k l
 | [],_=>rfl
 |b::l,k=>by simp only[Rh,LU,ak l];congr 2;exact UInt8.ofNat_toNat
theorem so {α:Type}(v:Value)(k:D->α):Uz v k=k (.prim v):=by
 unfold Uz;split
 ·exact sq _ _
 ·rename_i b;cases b<;>rfl
 ·rw[ak]
 ·rfl
theorem aj {α:Type}(d:D)(k:D->α):Kv d k=k d:=by
 unfold Kv;split
 ·exact so _ _
 ·simp only[LU]
 ·simp only[LU]
 ·rfl
theorem Qb {α:Type}:∀(l:List D) (k:List D->α),NP l k=k l
 | [],_=>rfl
 |d::l,k=>by simp only[NP,aj,Qb l]
theorem MY {α:Type}(d:D)(k:D->α):NO d k=k d:=by
 unfold NO;split
 ·exact Qb _ _
 ·exact Qb _ _
 ·exact Qb _ _
 ·exact aj _ _
def HZ (f:D->Bool):List D->Bool
 | []=>true
 |d::l=>f d&&HZ f l
def Qm (f:D->Bool):D->Bool
 | .agg l=>HZ f l
 |d=>f d
def G4:Nat->D->Bool
 | 0,_=>false
 |n+1,d=>match d with
  | .any=>true
  | .prim _=>true
  | .agg l=>HZ (G4 n) l
  | .tup l=>HZ (G4 n) l
  | .sl _ _ es=>HZ (Qm (G4 n)) es
  | .pptr e=>Qm (G4 n) e
  | .clo _ a b=>HZ (G4 n) a&&HZ (G4 n) b
  | .mp a b=>HZ (G4 n) a&&HZ (G4 n) b
  | .ifc _ d=>G4 n d
  |_=>false
theorem Ih {f:D->Bool}:∀ {l:List D},HZ f l=true->∀d∈l,f d=true
 | [],_,_,h=>by simp at h
 |x::l,h,d,hd=>by
  simp only[HZ,Ba]at h;rcases BA.1 hd with rfl|hd
  ·exact h.1
  ·exact Ih h.2 d hd
theorem WG {f:D->Bool}{d:D}(h:Qm f d=true):∀c∈d.cells,f c=true:=by
 unfold Qm at h;split at h
 ·exact Ih h
 ·rename_i hne
  intro c hc;cases d<;>simp only[D.cells,List.mem_singleton]at hc<;>first|(subst hc;exact h)|exact AZ rfl (hne _)
theorem Gw:∀ {n:Nat} {d:D},G4 n d=true->B7 d
 | 0,_,h=>by cases h
 |n+1,d,h=>by
  simp only[G4]at h;split at h
  ·exact .any
  ·exact .prim _
  ·exact .agg λd hd=>Gw (Ih h d hd)
  ·exact .tup λd hd=>Gw (Ih h d hd)
  ·exact .sl λe he c hc=>Gw (WG (Ih h e he) c hc)
  ·exact .pptr λc hc=>Gw (WG h c hc)
  ·simp only[Ba]at h
   exact .clo (λd hd=>Gw (Ih h.1 d hd)) (λd hd=>Gw (Ih h.2 d hd))
  ·simp only[Ba]at h
   exact .mp (λd hd=>Gw (Ih h.1 d hd)) (λd hd=>Gw (Ih h.2 d hd))
  ·exact .ifc (Gw h)
  ·cases h
def Jh {α β:Type}(f:α->Option β):List α->Option (List β)
 | []=>some []
 |x::l=>match f x with
  |some y=>match Jh f l with
   |some r=>some (y::r)
   |none=>none
  |none=>none
theorem MO {α β:Type}{f:α->Option β}:∀ {l:List α} {r:List β},Jh f l=some r->l.length=r.length/\∀(i:Nat) (x:α) (y:β),l[i]?=some x->r[i]?=some y->f x=some y
 | [],r,h=>by simp only[Jh,BL]at h;subst h;simp
 |x::l,r,h=>by
  simp only[Jh]at h;split at h<;>try(cases h;done)
  rename_i y hy;split at h<;>try(cases h;done)
  rename_i r' hr;cases h;obtain⟨h1,h2⟩:=MO hr;refine⟨by simp[h1],λi a b ha hb=>?_⟩;cases i with
  |zero=>simp at ha hb;subst ha hb;exact hy
  |succ i=>exact h2 i a b (by simpa using ha) (by simpa using hb)
theorem Pw {α β:Type}{f:α->Option β}{l:List α}{r:List β}(h:Jh f l=some r):∀y∈r,∃x∈l,f x=some y:=λy hy=>by
 obtain⟨h1,h2⟩:=MO h;obtain⟨i,hi,rfl⟩:=NJ hy;exact⟨l[i]'(by omega),List.getElem_mem _,h2 i _ _ (BI (by omega)) (BI hi)⟩
def Tj (f:D->Option D)(d:D):Option D:=match d with
 | .agg cs=>match Jh f cs with
  |some cs'=>some (.agg cs')
  |none=>none
 |d=>match f d with
  |some d'=>match JR d' with
   |true=>some d'
   |false=>none
  |none=>none
def NQ:Nat->Hp->D->Option D
 | 0,_,_=>none
 |n+1,H,d=>match d with
  | .agg l=>match Jh (NQ n H) l with
   |some l'=>some (.agg l')
   |none=>none
  | .tup l=>match Jh (NQ n H) l with
   |some l'=>some (.tup l')
   |none=>none
  | .osl k g sz i len=>match Hp.get H k with
   |some e=>match Nat.beq g e.g&&Nat.beq sz e.sz&&Nat.ble (i+len) e.es.length with
    |true=>match Jh (Tj (NQ n H)) ((e.es.drop i).take len)with
     |some es'=>some (.sl false sz es')
     |none=>none
    |false=>none
   |none=>none
  |d=>match G4 20 d with
   |true=>some d
   |false=>none
theorem VR {d:D}(h:JR d=true):d.cells=[d]:=by cases d<;>first|rfl|cases h
theorem SV {H:Hp}{f:D->Option D}(hf:∀d d',f d=some d'->Fz H [] d d'/\B7 d'){d d':D}(h:Tj f d=some d'):
  d'.cells.length=d.cells.length/\(∀(q:Nat) (c c':D),d.cells[q]?=some c->d'.cells[q]?=some c'->Fz H [] c c')/\∀c∈d'.cells,B7 c:=by
 unfold Tj at h;split at h
 ·rename_i cs
  split at h<;>try(cases h;done)
  rename_i cs' hm;cases h;obtain⟨h1,h2⟩:=MO hm;refine⟨h1.symm,λq c c' hc hc'=>(hf _ _ (h2 q c c' hc hc')).1,λc hc=>?_⟩;obtain⟨x,_,hx⟩:=Pw hm c hc;exact(hf _ _ hx).2
 ·rename_i hne
  split at h<;>try(cases h;done)
  rename_i d1 hd;split at h<;>try(cases h;done)
  rename_i hn;cases h;have hc:d.cells=[d]:=VR (by cases d<;>first|rfl|exact AZ rfl (hne _));rw[hc,VR hn];refine⟨rfl,λq c c' h1 h2=>?_,λc hc=>?_⟩
  ·cases q with
   |zero=>simp at h1 h2;subst h1 h2;exact(hf _ _ hd).1
   |succ q=>simp at h1
  ·simp at hc;subst hc;exact(hf _ _ hd).2
theorem KR {H:Hp}:∀ {n:Nat} {d d':D},NQ n H d=some d'->Fz H [] d d'/\B7 d'
 | 0,_,_,h=>by cases h
 |n+1,d,d',h=>by
  simp only[NQ]at h;split at h
  ·split at h<;>try(cases h;done)
   rename_i hm;cases h;obtain⟨h1,h2⟩:=MO hm;refine⟨.agg h1 λi a b ha hb=>(KR (h2 i a b ha hb)).1,.agg λc hc=>?_⟩;obtain⟨x,_,hx⟩:=Pw hm c hc;exact(KR hx).2
  ·split at h<;>try(cases h;done)
   rename_i hm;cases h;obtain⟨h1,h2⟩:=MO hm;refine⟨.tup h1 λi a b ha hb=>(KR (h2 i a b ha hb)).1,.tup λc hc=>?_⟩;obtain⟨x,_,hx⟩:=Pw hm c hc;exact(KR hx).2
  ·split at h<;>try(cases h;done)
   rename_i k g sz i len _ e he;split at h<;>try(cases h;done)
   rename_i hb;split at h<;>try(cases h;done)
   rename_i es' hm;cases h;simp only[Ba]at hb;obtain⟨⟨b1,b2⟩,b3⟩:=hb;have b3:=Bh b3;obtain⟨h1,h2⟩:=MO hm;have hget:∀(j:Nat) (x:D),j<len->e.es[i+j]?=some x->((e.es.drop i).take len)[j]?=some x:=λj x hj hx=>by
    rw[Ej,AH hj,HH];exact hx
   have hlen:es'.length=len:=by rw[<-h1];simp;omega
   refine⟨.osl he rfl (B4 b1) (B4 b2) b3 hlen (λj x y hx hy=>?_) (λj x y q c c' hx hy hc hc'=>?_),.sl λe' he' c hc=>?_⟩
   ·have hj:j<len:=by rw[<-hlen];exact(List.getElem?_eq_some_iff.1 hy).1
    exact(SV (λ_ _ h=>KR h) (h2 j x y (hget j x hj hx) hy)).1
   ·have hj:j<len:=by rw[<-hlen];exact(List.getElem?_eq_some_iff.1 hy).1
    exact(SV (λ_ _ h=>KR h) (h2 j x y (hget j x hj hx) hy)).2.1 q c c' hc hc'
   ·obtain⟨x,_,hx⟩:=Pw hm e' he'
    exact(SV (λ_ _ h=>KR h) hx).2.2 c hc
  ·split at h<;>try(cases h;done)
   rename_i hp;cases h;exact⟨.refl _,Gw hp⟩
structure WR where
 iw:Nat
 ia:Option Nat
 e:Au
 e':Au
 R:Hp
def WR.tail (W:WR)(L:Array Bool):Hp:=if L.getD W.iw false=true then W.e'::W.R else match W.ia with
 |none=>W.e::W.R
 |some ia=>if L.getD ia false=true then W.e::W.R else W.R
def WR.start (W:WR):Hp:=match W.ia with
 |none=>W.e::W.R
 |some _=>W.R
theorem dW {W:WR}{L:Array Bool}(h:Ls L W.iw):W.tail L=W.e'::W.R:=AH h
section
variable {C:A8} {F:Ab} {ops:Array Oper}
def Hw (C:A8)(F:Ab)(ops:Array Oper)(W:WR)(g:Nat)(env:Ar)(o:Oper)(d:D):Prop:=
 ∀(He:Hp) (ρ:Lk) (a:Act) (w:World),Ao C F ρ (W.e::He) w->(∀x∈W.R,x∈He)->(∀k,ρ k g=none)->(∀x∈W.e::He,x.g≠g) ->
  (∀t∈o.looksAt ops,AU ρ (AM F.X ρ (W.e::He)) w (env.get t) (a.tmps.getD t undef)) ->
  Region.wanted o (yielded ops a.tmps)=true/\∃v ρ' w',((execOp a.eval o).run C.P w=.ok (.value v) w'\/((execOp a.eval o).run C.P w=.ok .skip w'/\v=undef)) /\
   Ao C F ρ' (W.e'::He) w'/\BQ ρ (AM F.X ρ (W.e::He)) w ρ' (AM F.X ρ' (W.e'::He)) w'/\(∀k g',g'≠g->ρ' k g'=ρ k g')/\AU ρ' (AM F.X ρ' (W.e'::He)) w' d v
theorem mb {l:List B0}(hn:(l.map (·.i)).Nodup){a b:B0}(ha:a∈l)(hb:b∈l)(he:a.i=b.i):a=b:=by
 induction l with
 |nil=>simp at ha
 |cons x l ih=>
  rw[Cc,List.nodup_cons]at hn;rcases BA.1 ha with h1|h1
  ·rcases BA.1 hb with h2|h2
   ·rw[h1,h2]
   ·exact AZ (List.mem_map.2 ⟨b,h2,by rw[<-he,h1]⟩) hn.1
  ·rcases BA.1 hb with h2|h2
   ·exact AZ (List.mem_map.2 ⟨a,h1,by rw[he,h2]⟩) hn.1
   ·exact ih hn.2 h1 h2
def M2 (C:A8)(F:Ab)(ops:Array Oper)(W:WR)(g:Nat)(env:Ar)(r:B0):Prop:=
 (r.i≠W.iw/\W.ia≠some r.i/\((W.ia=none/\DR ops W.iw r.i/\B3 C F ops (W.e::W.R) g env r.o r.d r.ne)\/B3 C F ops W.R g env r.o r.d r.ne))\/(r.i=W.iw/\W.ia≠some r.i/\r.ne=none/\Hw C F ops W g env r.o r.d) \/
  (r.i≠W.iw/\W.ia=some r.i/\r.ne=none/\B3 C F ops W.R g env r.o r.d (some W.e))
theorem M2.gen {W:WR}{g:Nat}{env:Ar}{r:B0}(h:M2 C F ops W g env r):∀e,r.ne=some e->e.g=g:=by
 rcases h with⟨_,_,⟨_,_,h⟩|h⟩|⟨_,_,h,_⟩|⟨_,_,h,_⟩
 ·exact h.1
 ·exact h.1
 ·intro e he;rw[h]at he;cases he
 ·intro e he;rw[h]at he;cases he
theorem DI.nextG {H H':Hp}{n:Nat}{env:Ar}{A B:List B0}{r:B0}{L:Array Bool}{a:Act}{w:World}{ρ:Lk}{He:Hp}(h:DI C F H n env (A++r::B) L a w ρ He)(hi:r.i<L.size)(hn:¬Ls L r.i)
  (hnd:((A++r::B).map (·.i)).Nodup) (hdst:(A++r::B).Pairwise (λr r'=>∀t,r.o.dst=some t->r'.o.dst≠some t)) (hok:DC F.nt r.o=true) {v:Value} {ρ':Lk} {w':World} {He':Hp}
  (pm:Ao C F ρ' He' w') (px:BQ ρ (AM F.X ρ He) w ρ' (AM F.X ρ' He') w') (pf:∀k g',g'≠n+r.i->ρ' k g'=ρ k g') (pr:AU ρ' (AM F.X ρ' He') w' r.d v)
  (pp:He'.Perm ((A++r::B).filterMap (λr'=>if(L.setIfInBounds r.i true).getD r'.i false then r'.ne else none)++H')):
  DI C F H' n env (A++r::B) (L.setIfInBounds r.i true) (a.put r.o.dst v) w' ρ' He':=by
 have hset:∀j,Ls (L.setIfInBounds r.i true) j↔j=r.i\/Ls L j:=λj=>Ls.set hi
 have hne:∀r'∈A++B,r'.i≠r.i:=by
  simp only[Cv,Cc]at hnd;intro r' hr' he;rw[Dp,List.nodup_cons]at hnd;rcases List.mem_append.1 hr' with hr'|hr'
  ·exact hnd.2.2 r'.i (List.mem_map.2 ⟨r',hr',rfl⟩) r.i (by simp) he
  ·exact hnd.2.1.1 (List.mem_map.2 ⟨r',hr',he⟩)
 have hput:∀t,(a.put r.o.dst v).tmps.getD t undef=if r.o.dst=some t then v else a.tmps.getD t undef:=by
  intro t;cases hd:r.o.dst with
  |none=>simp[Act.put]
  |some k=>
   have hk:k<a.tmps.size:=by
    rw[h.nt];unfold DC at hok;rw[hd]at hok;exact Nat.blt_eq.mp hok
   show(a.tmps.setIfInBounds k v).getD t undef=_;rw[Ax,Hl]
   by_cases hkt:k=t
   ·subst hkt;simp[hk]
   ·rw[AG hkt,AG (by simpa using hkt),<-Ax]
 refine⟨pm,pp,λr' hr' hl t ht=>?_,λt ht=>?_,λk g hg hk=>?_,?_,?_⟩
 ·rw[hput]
  by_cases hrr:r'=r
  ·subst hrr;rw[AH ht];exact pr
  ·have hr2:r'∈A++B:=by
    rcases List.mem_append.1 hr' with h|h
    ·simp[h]
    ·rcases BA.1 h with h|h
     ·exact AZ h hrr
     ·simp[h]
   have hl2:=((hset r'.i).1 hl).resolve_left (hne r' hr2);rw[AG]
   ·exact(h.reps r' hr' hl2 t ht).mono px
   ·intro hrt
    rw[Iy,Dm]at hdst;rcases List.mem_append.1 hr2 with h|h
    ·exact hdst.2.2 r' h r (by simp) t ht hrt
    ·exact hdst.2.1.1 r' h t hrt ht
 ·rw[hput,AG (ht r (by simp) ((hset r.i).2 (.inl rfl)))]
  exact(h.old t λr' hr' hl=>ht r' hr' ((hset r'.i).2 (.inr hl))).mono px
 ·by_cases hgr:g=n+r.i
  ·exact⟨r,by simp,(hset r.i).2 (.inl rfl),hgr⟩
  ·rw[pf k g hgr]at hk
   obtain⟨r',h1,h2,h3⟩:=h.fresh k g hg hk;exact⟨r',h1,(hset r'.i).2 (.inr h2),h3⟩
 ·cases r.o.dst<;>simp[Act.put,h.nt]
 ·cases r.o.dst<;>simp[Act.put,h.dfr]
theorem fE {W:WR}{Q:Exit->Act->World->Prop}{n:Nat}{env:Ar}{rs:List B0}{suf:List Nat}(ho:La ops rs suf)(hiw:W.iw<ops.size)(hwg:W.e'.g=W.e.g\/W.e'.g=n+W.iw)(hgen:∀e∈W.R,e.g<n)(hge:W.ia=none->W.e.g<n)(hga:∀ia,W.ia=some ia->W.e.g=n+ia/\DR ops W.iw ia)(hd:∀r∈rs,DC F.nt r.o=true)
  (hst:∀A r B,rs=A++r::B->ops[r.i]?=some r.o/\M2 C F ops W (n+r.i) (EL A env) r)
  (hend:∀(L:Array Bool) (a:Act) (w:World) (ρ:Lk) (He:Hp),L.size=ops.size->(∀r∈rs,Ls L r.i)->DI C F (W.e'::W.R) n env rs L a w ρ He->wpOps C.P ops Q suf a w):
  (hw:∀ {L:Array Bool},(∀r∈rs,Ls L r.i)->Ls L W.iw)->∀(fuel:Nat) (L:Array Bool) (a:Act) (w:World) (ρ:Lk) (He:Hp),L.size=ops.size->((rs.map (·.i)++suf).filter (λi=>!L.getD i false)).length<=fuel->Cl ops L->(∀i∈suf,¬Ls L i) ->
   DI C F (W.tail L) n env rs L a w ρ He->wpAny C.P .any ops Q fuel L a w:=by
 intro hw fuel
 induction fuel with
 |zero=>
  intro L a w ρ He hL hf hc hs hi;have h0:(rs.map (·.i)++suf).filter (λi=>!L.getD i false)=[]:=ET (by omega);have hall:∀r∈rs,Ls L r.i:=λr hr=>by
   have:=List.filter_eq_nil_iff.1 h0 r.i (by simp;exact .inl ⟨r,hr,rfl⟩)
   simpa[Ls]using this
  have hsuf:suf=[]:=by
   apply List.eq_nil_iff_forall_not_mem.2;intro i hi2
   have:=List.filter_eq_nil_iff.1 h0 i (by simp[hi2])
   exact hs i hi2 (by simpa[Ls]using this)
  subst hsuf;refine K5 [] 0 L a w hL (Ai _) (λi hi2=>⟨λ_=>by simp,λ_=>?_⟩) .nil (λA i B h=>by cases A<;>simp at h) (by simp) hc (hend L a w ρ He hL hall (by have h0:=hi;rw[dW (hw hall)]at h0;exact h0))
  have:=ho.all i hi2
  simp at this;obtain⟨r,hr,rfl⟩:=this;exact hall r hr
 |succ fuel ih=>
  intro L a w ρ He hL hf hc hs hi
  by_cases hall:∀r∈rs,Ls L r.i
  ·refine K5 suf (fuel+1) L a w hL ?_ (λi hi2=>?_) ?_ (λA i B hAB=>⟨λj hj=>?_,λj hj=>ho.suf A i B hAB j (by simp[hj])⟩) (λi hi2=>ho.lt i (by simp[hi2])) hc (hend L a w ρ He hL hall (by have h0:=hi;rw[dW (hw hall)]at h0;exact h0))
   ·refine BR ?_ hf
    rw[List.filter_append,Bk];rw[(List.filter_eq_self (l:=suf)).2 λi hi2=>by have:=hs i hi2;unfold Ls at this;simpa using this];omega
   ·constructor
    ·intro h1 h2;exact hs i h2 h1
    ·intro h1
     have:=ho.all i hi2
     rcases List.mem_append.1 this with h|h
     ·obtain⟨r,hr,rfl⟩:=List.mem_map.1 h;exact hall r hr
     ·exact AZ h h1
   ·exact(Dp.1 ho.nodup).2.1
   ·have hA:=ho.first (rs.map (·.i)++A) i B (by simp[hAB]) j hj
    refine⟨ho.lt j (by rw[hAB];rcases List.mem_append.1 hA with h|h<;>simp[h]),λhB=>?_⟩;have hnd:=ho.nodup;rw[hAB,<-Do,Dp]at hnd;exact hnd.2.2 j hA j hB rfl
  ·have hnot:∃r∈rs,¬Ls L r.i:=by
    apply Cy;intro hn;exact hall λr hr=>Cy λh=>hn ⟨r,hr,h⟩
   have hLt:∀j,j<ops.size->(L.getD j true=true↔Ls L j):=λj hj=>by
    unfold Ls;rw[Ax,Ax,Bc (by omega)];simp
   have hsome:Region.ready .any ops L≠[]:=by
    obtain⟨r0,hr0,hn0⟩:=hnot
    have:∀X:List B0,∀Y,rs=X++Y->(∃r∈Y,¬Ls L r.i)->(∀r∈X,Ls L r.i)->∃A r B,rs=A++r::B/\¬Ls L r.i/\∀r∈A,Ls L r.i:=by
     intro X Y
     induction Y generalizing X with
     |nil=>rintro _ ⟨r,hr,_⟩ _;simp at hr
     |cons y Y ihY=>
      intro hXY hex hX
      by_cases hy:Ls L y.i
      ·obtain⟨r,hr,hrn⟩:=hex
       rcases BA.1 hr with rfl|hr
       ·exact AZ hy hrn
       ·exact ihY (X++[y]) (by simp[hXY]) ⟨r,hr,hrn⟩ (λr hr=>by
         rcases List.mem_append.1 hr with h|h
         ·exact hX r h
         ·simp at h;subst h;exact hy)
      ·exact⟨X,y,Y,hXY,hy,hX⟩
    obtain⟨A,r,B,h1,h2,h3⟩:=this [] rs rfl ⟨r0,hr0,hn0⟩ (by simp);intro hnil;have hrlt:=ho.lt r.i (by rw[h1];simp)
    have:r.i∈Region.ready .any ops L:=by
     rw[Ec];refine⟨hrlt,?_,λj hj=>?_⟩
     ·cases hb:L.getD r.i true with
      |false=>rfl
      |true=>exact AZ ((hLt r.i hrlt).1 hb) h2
     ·have:=ho.first (A.map (·.i)) r.i (B.map (·.i)++suf) (by rw[h1];simp) j hj
      obtain⟨r',hr',rfl⟩:=List.mem_map.1 this;exact h3 r' hr'
    rw[hnil]at this;simp at this
   refine⟨λh0=>AZ h0 hsome,λi hir=>?_⟩;obtain⟨hilt,hin,hid⟩:=Ec.1 hir;have hnL:¬Ls L i:=λh=>by rw[(hLt i hilt).2 h]at hin;cases hin
   have hpre:i∈rs.map (·.i):=by
    rcases List.mem_append.1 (ho.all i hilt)with h|h
    ·exact h
    ·obtain⟨A,B,hAB⟩:=D9 h
     obtain⟨r0,hr0,hn0⟩:=hnot
     have:=E9 hL hc (ho.suf A i B hAB r0.i (Jq _ (List.mem_map.2 ⟨r0,hr0,rfl⟩))) hid
     exact AZ this hn0
   obtain⟨r,hr,rfl⟩:=List.mem_map.1 hpre;obtain⟨A,B,hAB⟩:=D9 hr;obtain⟨hor,hstr⟩:=hst A r B hAB;have hset:∀j,Ls (L.setIfInBounds r.i true) j↔j=r.i\/Ls L j:=λj=>Ls.set (by omega)
   have hndr:(rs.map (·.i)).Nodup:=(Dp.1 ho.nodup).1;have hgt:∀e∈W.tail L,(e∈W.R\/(e=W.e/\∀ia,W.ia=some ia->Ls L ia)\/(e=W.e'/\Ls L W.iw)):=λe he=>by
    unfold WR.tail at he
    by_cases hwl:L.getD W.iw false=true
    ·rw[AH hwl]at he
     rcases BA.1 he with rfl|he
     ·exact .inr (.inr ⟨rfl,hwl⟩)
     ·exact .inl he
    ·rw[AG hwl]at he
     cases hia:W.ia with
     |none=>
      rw[hia]at he;rcases BA.1 he with rfl|he
      ·exact .inr (.inl ⟨rfl,by simp⟩)
      ·exact .inl he
     |some ia=>
      rw[hia]at he;dsimp only at he
      by_cases hal:L.getD ia false=true
      ·rw[AH hal]at he
       rcases BA.1 he with rfl|he
       ·exact .inr (.inl ⟨rfl,λj hj=>by cases hj;exact hal⟩)
       ·exact .inl he
      ·rw[AG hal]at he
       exact .inl he
   have hfr:∀k,ρ k (n+r.i)=none:=λk=>by
    apply Cy;intro hk;obtain⟨r',h1,h2,h3⟩:=hi.fresh k (n+r.i) (by omega) hk
    have:r'.i=r.i:=by omega
    rw[this]at h2;exact hnL h2
   have hne:∀e∈He,e.g≠n+r.i:=λe he hg=>by
    rcases List.mem_append.1 (hi.perm.mem_iff.1 he)with h|h
    ·obtain⟨r',h1,h2⟩:=List.mem_filterMap.1 h
     split at h2
     ·rename_i hl
      obtain⟨A',B',hAB'⟩:=D9 h1
      have:=(hst A' r' B' hAB').2.gen e h2
      have:r'.i=r.i:=by omega
      rw[this]at hl;exact hnL hl
     ·cases h2
    ·have hE:(∀ia,W.ia=some ia->Ls L ia)->W.e.g≠n+r.i:=λhal hg=>by
      cases hia:W.ia with
      |none=>have:=hge hia;omega
      |some ia=>
       have h1:=(hga ia hia).1
       have:ia=r.i:=by omega
       rw[<-this]at hnL;exact hnL (hal ia hia)
     rcases hgt e h with h|⟨rfl,hal⟩|⟨rfl,hl⟩
     ·have:=hgen e h;omega
     ·exact hE hal hg
     ·rcases hwg with h'|h'
      ·refine hE (λia hia=>?_) (by omega)
       refine E9 hL hc (hga ia hia).2 λk hk=>?_
       have hwl':Ls L W.iw:=hl;exact hc W.iw ((hLt W.iw hiw).2 hwl') hiw k hk
      ·have:W.iw=r.i:=by omega
       rw[this]at hl;exact hnL hl
   have go:∀(a':Act) (w':World) (ρ':Lk) (He':Hp),DI C F (W.tail (L.setIfInBounds r.i true)) n env rs (L.setIfInBounds r.i true) a' w' ρ' He'->wpAny C.P .any ops Q fuel (L.setIfInBounds r.i true) a' w':=by
    intro a' w' ρ' He' hn';refine ih _ _ _ ρ' He' (by simp[hL]) ?_ ?_ (λj hj=>?_) hn'
    ·have:((rs.map (·.i)++suf).filter (λi=>!(L.setIfInBounds r.i true).getD i false)).length<((rs.map (·.i)++suf).filter (λi=>!L.getD i false)).length:=by
      have sub:(rs.map (·.i)++suf).filter (λi=>!(L.setIfInBounds r.i true).getD i false)=((rs.map (·.i)++suf).filter (λi=>!L.getD i false)).filter (λi=>!Nat.beq i r.i):=by
       rw[List.filter_filter];apply List.filter_congr;intro x hx;have h1:=hset x;unfold Ls at h1
       by_cases hxr:x=r.i
       ·subst hxr
        have:(L.setIfInBounds r.i true).getD r.i false=true:=h1.2 (.inl rfl)
        simp[this]
       ·have hb:Nat.beq x r.i=false:=by
         cases hb:Nat.beq x r.i with
         |false=>rfl
         |true=>exact AZ (B4 hb) hxr
        rw[hb]
        by_cases hlx:L.getD x false=true
        ·rw[h1.2 (.inr hlx),hlx];rfl
        ·have:¬(L.setIfInBounds r.i true).getD x false=true:=λh=>hlx ((h1.1 h).resolve_left hxr)
         simp only[Bool.not_eq_true]at this hlx;rw[this,hlx];rfl
      rw[sub];apply List.length_filter_lt_length_iff_exists.2;exact⟨r.i,by rw[List.mem_filter];exact⟨by simp;exact .inl ⟨r,hr,rfl⟩,by unfold Ls at hnL;simpa using hnL⟩,by simp⟩
     omega
    ·intro k hk2 hks x hx
     have hk3:Ls (L.setIfInBounds r.i true) k:=by
      unfold Ls;rw[Ax,Bc (by simp;omega)]at hk2⊢;simpa using hk2
     show Ls _ x;rw[hset];rcases(hset k).1 hk3 with rfl|hk3
     ·exact .inr (hid x hx)
     ·exact .inr (hc k ((hLt k hks).2 hk3) hks x hx)
    ·rw[hset]
     rintro(rfl|h)
     ·have hnd:=ho.nodup
      rw[Dp]at hnd;exact hnd.2.2 r.i (List.mem_map.2 ⟨r,hr,rfl⟩) r.i hj rfl
     ·exact hs j hj h
   have hdst:=ho.dst;rw[hAB]at hdst hndr;have keep:∀ {α:Type} (j:Nat) (x y:α),j≠r.i->(if(L.setIfInBounds r.i true).getD j false=true then x else y)=(if L.getD j false=true then x else y):=λj x y hj=>by
    have:=hset j
    unfold Ls at this
    by_cases hl:L.getD j false=true
    ·rw[AH hl,AH (this.2 (.inr hl))]
    ·rw[AG hl,AG λh=>hl ((this.1 h).resolve_left hj)]
   have wset:r.i≠W.iw->W.ia≠some r.i->W.tail (L.setIfInBounds r.i true)=W.tail L:=λhr hr2=>by
    unfold WR.tail;rw[keep W.iw _ _ (Ne.symm hr)];cases hia:W.ia with
    |none=>rfl
    |some ia=>
     dsimp only;rw[keep ia _ _ λh=>hr2 (by rw[hia,h])]
   have next:r.i≠W.iw->W.ia≠some r.i->∀v ρ' w',Ip C F He ρ w (n+r.i) r.d r.ne v ρ' w'->wpAny C.P .any ops Q fuel (L.setIfInBounds r.i true) (a.put r.o.dst v) w':=by
    intro hriw hria v ρ' w' p;have hi':=hi;rw[hAB]at hi';have hn':=DI.next hi' (by omega) hnL hndr hdst (hd r hr) p;rw[<-hAB,<-wset hriw hria]at hn';exact go _ _ _ _ hn'
   unfold wpOp;simp only[hor];have hR:∀e∈W.R,e∈He:=λe he=>hi.perm.mem_iff.2 (by
    refine List.mem_append_right _ ?_;unfold WR.tail;cases W.ia<;>dsimp only<;>(repeat' split)<;>simp[he])
   have samefm:r.ne=none->∀ {fm:List Au},(A++r::B).filterMap (λr'=>if L.getD r'.i false then r'.ne else none)=fm ->
     (A++r::B).filterMap (λr'=>if(L.setIfInBounds r.i true).getD r'.i false then r'.ne else none)=fm:=λhnone fm hfm=>by
    rw[<-hfm];refine JE λr' hr'=>?_
    by_cases hrr:r'.i=r.i
    ·have:r'=r:=mb hndr hr' (by simp) hrr
     subst this;rw[hnone];simp
    ·exact keep r'.i _ _ hrr
   rcases hstr with⟨hriw,hria,hstd⟩|⟨hriw,hria,hnone,hstw⟩|⟨hriw,hria,hnone,hstd⟩
   ·have hgo:∀Hr:Hp,(∀e∈Hr,e∈He)->B3 C F ops Hr (n+r.i) (EL A env) r.o r.d r.ne->_:=λHr hsub hs=>hs.2 He ρ a w hi.mem hsub hfr hne (hi.look ho hL hc hAB hir)
    have fin:_:=(show(Region.wanted r.o (yielded ops a.tmps)=false/\r.ne=none/\AU ρ (AM F.X ρ He) w r.d undef)\/(Region.wanted r.o (yielded ops a.tmps)=true/\cJ C F He ρ w (n+r.i) r.d r.ne r.o a)from by
     rcases hstd with⟨hia,hre,hs⟩|hs
     ·refine hgo _ (λe he=>hi.perm.mem_iff.2 ?_) hs
      have hnw:¬L.getD W.iw false=true:=λhwl=>hnL (by
       refine E9 hL hc hre λk hk=>?_
       have hwl':Ls L W.iw:=hwl;exact hc W.iw ((hLt W.iw hiw).2 hwl') hiw k hk)
      unfold WR.tail;rw[AG hnw,hia];rcases BA.1 he with rfl|he
      ·simp
      ·simp[he]
     ·exact hgo _ hR hs)
    rcases fin with⟨hw0,hn0,hrep⟩|⟨hw0,hout⟩
    ·rw[AG (by rw[hw0];simp)]
     exact next hriw hria undef ρ w ⟨by rw[hn0];exact hi.mem,by rw[hn0];exact .refl _ _ _,λ_ _ _=>rfl,by rw[hn0];exact hrep⟩
    ·rw[AH hw0]
     refine .inl ?_;unfold Oper.wp;rcases hout with⟨v,ρ',w',h1,h2⟩|⟨f,vs,h1,h2⟩
     ·rw[h1];exact next hriw hria v ρ' w' h2
     ·rw[h1]
      refine h2.mono ?_;rintro e w' ⟨v,rfl,ρ',h3⟩;exact next hriw hria v ρ' w' h3
   ·
    have hnw:¬L.getD W.iw false=true:=λh=>hnL (by rw[hriw];exact h)
    generalize hfm:rs.filterMap (λr'=>if L.getD r'.i false then r'.ne else none)=fm at*;have hperm:He.Perm (W.e::(fm++W.R)):=by
     have h0:=hi.perm;have htl:W.tail L=W.e::W.R:=by
      unfold WR.tail;rw[AG hnw];cases hia:W.ia with
      |none=>rfl
      |some ia=>
       dsimp only;have hre:=(hga ia hia).2;rw[<-hriw]at hre;exact AH (E9 hL hc hre hid)
     rw[htl,hfm]at h0;exact h0.trans Gl
    have m1:=hi.mem.perm hperm;have ho1:=AM.perm (X:=F.X) (ρ:=ρ) hperm;obtain⟨hw0,v,ρ',w',hrun,m2,x2,far2,rep2⟩:=hstw (fm++W.R) ρ a w m1 (λe he=>by simp[he]) hfr (λe he=>hne e (hperm.mem_iff.2 he)) (λt ht=>by
     rw[<-ho1];exact hi.look ho hL hc hAB hir t ht)
    rw[<-ho1]at x2;have hi':=hi;rw[hAB]at hi' hfm;have nx:=DI.nextG (H':=W.e'::W.R) hi' (by omega) hnL hndr hdst (hd r hr) (v:=v) m2 x2 far2 rep2 (by
     rw[samefm hnone hfm];exact Gl.symm)
    have hwt:W.tail (L.setIfInBounds r.i true)=W.e'::W.R:=by
     exact AH ((hset W.iw).2 (.inl hriw.symm))
    rw[<-hAB,<-hwt]at nx;rw[AH hw0];refine .inl ?_;unfold Oper.wp;rcases hrun with hrun|⟨hrun,rfl⟩
    ·rw[hrun];exact go _ _ _ _ nx
    ·rw[hrun];exact go _ _ _ _ nx
   ·
    have htl:W.tail L=W.R:=by
     have hnw:¬L.getD W.iw false=true:=λhwl=>hnL (by
      refine E9 hL hc (hga r.i hria).2 λk hk=>?_
      have hwl':Ls L W.iw:=hwl;exact hc W.iw ((hLt W.iw hiw).2 hwl') hiw k hk)
     unfold WR.tail;rw[AG hnw,hria];exact AG hnL
    have hwt:W.tail (L.setIfInBounds r.i true)=W.e::W.R:=by
     have hnw:¬(L.setIfInBounds r.i true).getD W.iw false=true:=λhwl=>by
      rcases(hset W.iw).1 hwl with h|h
      ·exact hriw h.symm
      ·exact hnL (by
        refine E9 hL hc (hga r.i hria).2 λk hk=>?_
        exact hc W.iw ((hLt W.iw hiw).2 h) hiw k hk)
     unfold WR.tail;rw[AG hnw,hria];exact AH ((hset r.i).2 (.inl rfl))
    have nxt:∀v ρ' w',Ip C F He ρ w (n+r.i) r.d (some W.e) v ρ' w'->wpAny C.P .any ops Q fuel (L.setIfInBounds r.i true) (a.put r.o.dst v) w':=λv ρ' w' p=>by
     have hi':=hi;rw[hAB]at hi';have nx:=DI.nextG (H':=W.e::W.R) hi' (by omega) hnL hndr hdst (hd r hr) (v:=v) p.mem p.ext p.far p.rep (by
      rw[samefm hnone rfl];have h0:=hi'.perm;rw[htl]at h0;exact(List.Perm.cons W.e h0).trans Gl.symm)
     rw[<-hAB,<-hwt]at nx;exact go _ _ _ _ nx
    rcases hstd.2 He ρ a w hi.mem hR hfr hne (hi.look ho hL hc hAB hir)with⟨hw0,hn0,hrep⟩|⟨hw0,hout⟩
    ·cases hn0
    ·rw[AH hw0]
     refine .inl ?_;unfold Oper.wp;rcases hout with⟨v,ρ',w',h1,h2⟩|⟨f,vs,h1,h2⟩
     ·rw[h1];exact nxt v ρ' w' h2
     ·rw[h1]
      refine h2.mono ?_;rintro e w' ⟨v,rfl,ρ',h3⟩;exact nxt v ρ' w' h3
inductive IF (C:A8)(F:Ab)(ops:Array Oper)(W:WR)(n:Nat):List Nat->Ar->Hp->Ar->Hp->Prop
 |nil (env:Ar) (N:Hp):IF C F ops W n [] env N env N
 |cons {i:Nat} {l:List Nat} {o:Oper} {d:D} {ne:Option Au} {env env':Ar} {N N':Hp} (ho:ops[i]?=some o) (hs:M2 C F ops W (n+i) env ⟨i,o,d,ne⟩)
   (h:IF C F ops W n l (BZ env o.dst d) (Cs ne N) env' N'):IF C F ops W n (i::l) env N env' N'
theorem IF.recs {W:WR}{n:Nat}{l:List Nat}{env env':Ar}{N N':Hp}(h:IF C F ops W n l env N env' N'):
  ∃rs:List B0,rs.map (·.i)=l/\env'=EL rs env/\N'=My rs N /\
   ∀A r B,rs=A++r::B->ops[r.i]?=some r.o/\M2 C F ops W (n+r.i) (EL A env) r:=by
 induction h with
 |nil env N=>exact⟨[],rfl,rfl,rfl,λA r B h=>by cases A<;>simp at h⟩
 | @cons i l o d ne env env' N N' ho hs _ ih=>
  obtain⟨rs,h1,h2,h3,h4⟩:=ih;refine⟨⟨i,o,d,ne⟩::rs,by simp[h1],h2,h3,λA r B hr=>?_⟩;cases A with
  |nil=>
   simp only[FM,Ek]at hr;obtain⟨rfl,rfl⟩:=hr;exact⟨ho,hs⟩
  |cons r0 A=>
   simp only[ES,Ek]at hr;obtain⟨rfl,rfl⟩:=hr;exact h4 A r B rfl
theorem dF {W:WR}{s:St}{Q:Exit->St->Prop}{pre suf:List Nat}{envF:Ar}{N:Hp}(hc:G7 ops pre suf=true)
  (hH:s.H.Perm W.start) (hga:∀ia,W.ia=some ia->W.e.g=s.n+ia/\DR ops W.iw ia/\ia∈pre) (hiw:W.iw∈pre) (hwg:W.e'.g=W.e.g\/W.e'.g=s.n+W.iw)
  (hpre:IF C F ops W s.n pre s.env [] envF N)
  (h:BH C F ops (suf.map λj=>ops.getD j default) ⟨envF,N++W.e'::W.R,s.n+ops.size⟩ (Q .normal)) (hd:ops.toList.all (DC F.nt)=true) (ρ:Lk) (a:Act) (w:World) (hs:Bj C F ρ s a w):
  wpAny C.P .any ops (Jz C F (Q .normal)) ops.size (Array.replicate ops.size false) a w.drew:=by
 obtain⟨rs,h1,h2,h3,h4⟩:=hpre.recs;have hor:∀r∈rs,ops[r.i]?=some r.o:=λr hr=>by
  obtain⟨A,B,hAB⟩:=D9 hr;exact(h4 A r B hAB).1
 have ho:=Py h1 hor hc;have hds:∀r∈rs,DC F.nt r.o=true:=λr hr=>by
  refine CQ.1 hd r.o ?_
  have:=hor r hr
  exact Array.mem_toList_iff.2 (Hm this)
 have hrep:∀j,(Array.replicate ops.size false).getD j false=false:=λj=>by
  rw[Ax];rw[Kn];split<;>rfl
 have hnL:∀j,¬Ls (Array.replicate ops.size false) j:=λj hj=>by unfold Ls at hj;rw[hrep]at hj;cases hj
 have hgen:∀e∈W.R,e.g<s.n:=λe he=>hs.gen e (hH.mem_iff.2 (by unfold WR.start;cases W.ia<;>simp[he]))
 have hge:W.ia=none->W.e.g<s.n:=λhia=>hs.gen _ (hH.mem_iff.2 (by unfold WR.start;rw[hia];simp))
 have hlw:=ho.lt W.iw (by rw[h1];simp[hiw]);have htl:W.tail (Array.replicate ops.size false)=W.start:=by
  unfold WR.tail WR.start;rw[AG (by rw[hrep];simp)];cases W.ia with
  |none=>rfl
  |some ia=>exact AG (by rw[hrep];simp)
 have hin:DI C F (W.tail (Array.replicate ops.size false)) s.n s.env rs (Array.replicate ops.size false) a w.drew ρ s.H:=by
  refine⟨hs.mem.drew,?_,λr _ hl=>AZ hl (hnL _),λt _=>(hs.env t).mono (.drew _ _ _),λk g hg hk=>AZ (hs.fresh k g hg) hk,hs.nt,hs.dfr⟩
  have:rs.filterMap (λr=>if(Array.replicate ops.size false).getD r.i false then r.ne else none)=[]:=by
   rw[RV];intro r _;rw[hrep];rfl
  rw[this,htl];exact hH
 refine fE ho hlw hwg hgen hge (λia h=>⟨(hga ia h).1,(hga ia h).2.1⟩) hds h4 ?_ (λhall=>by
  rw[<-h1]at hiw;obtain⟨r,hr,he⟩:=List.mem_map.1 hiw;rw[<-he];exact hall r hr) ops.size _ a w.drew ρ s.H (by simp) ?_ ?_ (λj _=>hnL j) hin
 ·intro L a' w' ρ' He hL hall hi
  have hN:He.Perm (N++W.e'::W.R):=by
   refine hi.perm.trans (List.Perm.append_right _ ?_);have e:rs.filterMap (λr=>if L.getD r.i false then r.ne else none)=rs.filterMap (·.ne):=JE λr hr=>by
    have:=hall r hr;unfold Ls at this;rw[this];rfl
   rw[e,h3]
   have:=K8 rs []
   rw[DX]at this;exact this.symm
  refine h ?_ suf ?_ ρ' a' w' ⟨hi.mem.perm hN,?_,?_,λt=>?_,hi.nt,hi.dfr⟩
  ·rw[CQ]
   intro o' ho';obtain⟨j,hj,rfl⟩:=List.mem_map.1 ho';have hlt:=ho.lt j (by simp[hj]);refine CQ.1 hd _ ?_;rw[Ax,Bc hlt];simp
  ·rw[List.map_map]
   refine Oz λj hj=>?_
   have hlt:=ho.lt j (by simp[hj]);simp[Ax,Bc hlt]
  ·intro k g hg
   apply Cy;intro hk;obtain⟨r,hr,_,he⟩:=hi.fresh k g (by simp at hg;omega) hk
   have:=ho.lt r.i (by simp;exact .inl ⟨r,hr,rfl⟩)
   simp at hg;omega
  ·intro e he
   rcases List.mem_append.1 he with he|he
   ·rw[h3]at he
    have he:=(K8 rs []).mem_iff.1 he;rw[DX]at he;obtain⟨r,hr,hre⟩:=List.mem_filterMap.1 he;obtain⟨A,B,hAB⟩:=D9 hr
    have:=(h4 A r B hAB).2.gen e hre
    have:=ho.lt r.i (by simp;exact .inl ⟨r,hr,rfl⟩)
    show e.g<s.n+ops.size;omega
   ·show e.g<s.n+ops.size
    rcases BA.1 he with rfl|he
    ·have hE:W.e.g<s.n+ops.size:=by
      cases hia:W.ia with
      |none=>have:=hge hia;omega
      |some ia=>
       obtain⟨q1,_,q3⟩:=hga ia hia
       have:=ho.lt ia (by rw[h1];simp[q3])
       omega
     rcases hwg with h|h<;>omega
    ·have:=hgen e he
     omega
  ·show AU ρ' (AM F.X ρ' (N++W.e'::W.R)) w' (envF.get t) _
   rw[<-AM.perm hN,h2]
   by_cases hw:∃r∈rs,r.o.dst=some t
   ·obtain⟨r,hr,hrd⟩:=hw
    rw[LD rs s.env t ho.dst r hr hrd];exact hi.reps r hr (hall r hr) t hrd
   ·rw[Ic rs s.env t λr hr hrd=>hw ⟨r,hr,hrd⟩]
    exact hi.old t λr hr _ hrd=>hw ⟨r,hr,hrd⟩
 ·refine BR (List.length_filter_le _ _) ?_
  have hsub:∀(l:List Nat) (n:Nat),l.Nodup->(∀x∈l,x<n)->l.length<=n:=by
   intro l n
   induction n generalizing l with
   |zero=>intro _ h;cases l with
    |nil=>simp
    |cons x l=>exact AZ (h x (by simp)) (by omega)
   |succ n ihn=>
    intro hnd hlt;have h1:=ihn (l.erase n) (hnd.erase n) λx hx=>by
     have:=hlt x (List.mem_of_mem_erase hx)
     have:x≠n:=λh=>by subst h;exact(RX hnd) hx
     omega
    have:=List.length_erase (a:=n) (l:=l)
    split at this<;>omega
  exact hsub _ _ ho.nodup ho.lt
 ·intro k hk
  have:k<ops.size\/¬k<ops.size:=by omega
  rcases this with hlt|hlt
  ·rw[Ax,Kn,AH hlt]at hk;cases hk
  ·intro h;exact AZ h hlt
theorem jo {P:Program}{o:Oper}{a:Act}{R R':Exit->Act->World->Prop}{K K':Act->World->Prop}(hk:∀a w,K a w->K' a w)(h:∀e a w,R e a w->R' e a w):∀r,o.upon P a K R r->o.upon P a K' R' r:=λr hr=>by
 unfold Oper.upon at hr⊢;split at hr
 ·exact hk _ _ hr
 ·exact hk _ _ hr
 ·exact hk _ _ hr
 ·refine hr.mono ?_
  intro e w'' q;cases e with
  |returned v=>exact hk _ _ q
  |panicked c=>exact h _ _ _ q
  |outgrown=>obtain⟨a,w,q⟩:=q;exact⟨a,w,h _ _ _ q⟩
 ·exact λc cs=>by
   obtain⟨v,w',h1,h2⟩:=hr c cs;exact⟨v,w',hk _ _ h1,h2⟩
 ·exact h _ _ _ hr
 ·exact hr.elim
theorem Pj {P:Program}{R R':Exit->Act->World->Prop}(h:∀e a w,R e a w->R' e a w):∀(fuel:Nat) (L:Array Bool) (a:Act) (w:World),wpAny P .any ops R fuel L a w->wpAny P .any ops R' fuel L a w
 | 0,L,a,w,hh=>⟨hh.1,h _ _ _ hh.2⟩
 |fuel+1,L,a,w,hh=>⟨λh0=>h _ _ _ (hh.1 h0),λi hi=>by
   have hq:=hh.2 i hi;unfold wpOp at hq⊢;split
   ·rename_i ho;simp only[ho]at hq;exact Pj h _ _ _ _ hq
   ·rename_i o ho
    simp only[ho]at hq;split
    ·rename_i hw
     rw[AH hw]at hq;rcases hq with hq|⟨h1,a,w,h2⟩
     ·exact .inl (jo (λa w=>Pj h _ _ a w) h _ hq)
     ·exact .inr ⟨h1,a,w,h _ _ _ h2⟩
    ·rename_i hw
     rw[AG hw]at hq;exact Pj h _ _ _ _ hq⟩
theorem xW {W:WR}{i:Nat}{s:St}{Q:Exit->St->Prop}{pre suf:List Nat}{envF:Ar}{N:Hp}(hm:C.P.follows .mixedOrders=true)(hc:G7 ops pre suf=true)
  (hH:s.H.Perm W.start) (hga:∀ia,W.ia=some ia->W.e.g=s.n+ia/\DR ops W.iw ia/\ia∈pre) (hiw:W.iw∈pre) (hwg:W.e'.g=W.e.g\/W.e'.g=s.n+W.iw)
  (hpre:IF C F ops W s.n pre s.env [] envF N)
  (h:BH C F ops (suf.map λj=>ops.getD j default) ⟨envF,N++W.e'::W.R,s.n+ops.size⟩ (Q .normal)):Ok C F (.region i ops true) s Q:=λhd ρ a w hs=>by
 refine wp_region_any hm (Pj (λe a w h=>?_) _ _ _ _ (dF hc hH hga hiw hwg hpre h hd ρ a w hs));obtain⟨rfl,s',ρ',h1,h2⟩:=h;exact⟨s',ρ',h1,h2⟩
theorem iF {tt:Nat->Option Az}{H:Hp}{g g':Operand->D}{op:Op}(h:∀x∈op.operands,g x=g' x):E5 tt H g op=E5 tt H g' op:=by
 cases op<;>simp only[Op.operands]at h<;>try rfl
 case store t x y=>simp only[E5];rw[h x (by simp),h y (by simp)]
theorem kp {tt:Nat->Option Az}{e:Au}{He:Hp}{g:Operand->D}{op:Op}{k:Nat}{e':Au}{p:Prop}(h:E5 tt [e] g op=some (k,e',p)):
  E5 tt (e::He) g op=some (k,e',p)/\Hp.set (e::He) k e'=e'::He/\e'.g=e.g:=by
 unfold E5 at h;split at h<;>try(cases h;done)
 rename_i t x y;simp only[E5];split at h<;>try(cases h;done)
 rename_i i hi
 try simp only[hi]
 split at h<;>try(cases h;done)
 rename_i h1
 try simp only[h1]
 split at h<;>try(cases h;done)
 rename_i e1 h2;have hb:Nat.beq e.k k=true/\e1=e:=by
  split at h<;>try(cases h;done)
  cases h;simp only[Hp.get]at h2;split at h2
  ·rename_i hb;cases h2;exact⟨hb,rfl⟩
  ·cases h2
 have hget:∀k0,Hp.get [e] k0=some e1->Hp.get (e::He) k0=some e1:=λk0 hk=>by
  simp only[Hp.get]at hk⊢;split at hk
  ·exact hk
  ·cases hk
 try rw[hget _ h2]
 split at h<;>try(cases h;done)
 rename_i h3;cases h;refine⟨by first|rfl|simp only[h3],?_,by rw[hb.2]⟩;simp only[Hp.set,hb.1]
theorem Hw.store {W:WR}{g:Nat}{env:Ar}{o:Oper}{tt:Nat->Option Az}(htt:Ch C.P tt){k:Nat}{p:Prop}(hw:CD ops env o=some true)(he:E5 tt [W.e] (BE env) o.op=some (k,W.e',p))(hp:p):
  Hw C F ops W g env o (.prim (.tuple #[])):=λHe ρ a w m _ _ _ hr=>by
 refine⟨Gx hr hw,?_⟩;obtain⟨g',h1,h2⟩:=HQ hr;rw[iF h1]at he;obtain⟨q1,q2,_⟩:=kp (He:=He) he;obtain⟨w',r1,r2,r3,_⟩:=WT (s:=⟨[],W.e::He,0⟩) htt m h2 q1 hp;simp only[q2]at r2 r3;exact⟨undef,ρ,w',.inr ⟨r1,rfl⟩,r2,r3,λ_ _ _=>rfl,.prim _⟩
theorem ST {tt:Nat->Option Az}{H:Hp}{n k:Nat}{g g':Operand->D}{op:Op}(h:∀x∈op.operands,g x=g' x):D1 tt H n k g op=D1 tt H n k g' op:=by
 unfold D1;split
 ·rename_i args tys
  cases hargs:args.toList with
  |nil=>rfl
  |cons s r=>
   cases r with
   |nil=>rfl
   |cons x r=>
    cases r with
    |nil=>
     have hs:s∈args.toList:=by rw[hargs];simp
     have hx:x∈args.toList:=by rw[hargs];simp
     dsimp only;rw[h s (by simp[Op.operands,Call.operands];simpa using hs),h x (by simp[Op.operands,Call.operands];simpa using hx)]
    |cons=>rfl
 ·rfl
theorem YD {e e1:Au}{k:Nat}{He:Hp}(h:Hp.get [e] k=some e1):e1=e/\Hp.get (e::He) k=some e/\Hp.del (e::He) k=He/\Hp.del [e] k=[]:=by
 simp only[Hp.get]at h;split at h
 ·rename_i hb
  cases h;refine⟨rfl,?_,?_,?_⟩
  ·simp only[Hp.get,hb]
  ·simp only[Hp.del,hb]
  ·simp only[Hp.del,hb]
 ·cases h
theorem jE {e:Au}{He:Hp}{esz:Nat}{d:D}{r:List D×Prop}(h:Hg [e] esz d=some r):Hg (e::He) esz d=some r:=by
 unfold Hg at h⊢;split at h<;>try exact h
 split at h<;>try(cases h;done)
 rename_i h1;obtain⟨rfl,h2,_,_⟩:=YD (He:=He) h1;rw[h2];exact h
theorem Si {tt:Nat->Option Az}{e e':Au}{He:Hp}{n k:Nat}{g:Operand->D}{op:Op}{d:D}{p:Prop}(h:D1 tt [e] n k g op=some (d,[e'],p)):
  D1 tt (e::He) n k g op=some (d,e'::He,p)/\e'.g=n:=by
 unfold D1 at h⊢;split at h<;>try(cases h;done)
 split at h<;>try(cases h;done)
 rename_i h1
 try rw[h1]
 try dsimp only
 split at h<;>try(cases h;done)
 rename_i h2
 try rw[h2]
 try dsimp only
 split at h<;>try(cases h;done)
 rename_i h3
 try rw[h3]
 try dsimp only
 split at h<;>try(cases h;done)
 rename_i h4
 try rw[h4]
 try dsimp only
 split at h<;>try(cases h;done)
 rename_i h5
 try rw[h5]
 try dsimp only
 split at h<;>try(cases h;done)
 rename_i h6
 try rw[jE h6]
 try dsimp only
 split at h<;>try(cases h;done)
 ·rename_i h7
  try rw[h7]
  try dsimp only
  split at h<;>try(cases h;done)
  rename_i h8;obtain⟨rfl,a1,a2,a3⟩:=YD (He:=He) h8
  try rw[a1]
  try dsimp only
  rw[a3]at h;rw[a2];cases h;exact⟨rfl,rfl⟩
theorem Hw.app {W:WR}{g:Nat}{env:Ar}{o:Oper}{tt:Nat->Option Az}(k:Nat)(htt:Ch C.P tt){d:D}{p:Prop}(hw:CD ops env o=some true)(he:D1 tt [W.e] g k (BE env) o.op=some (d,[W.e'],p))(hp:p):
  Hw C F ops W g env o d:=λHe ρ a w m _ fr hne hr=>by
 refine⟨Gx hr hw,?_⟩;obtain⟨g',h1,h2⟩:=HQ hr;rw[ST h1]at he;obtain⟨q1,_⟩:=Si (He:=He) he;obtain⟨v,ρ',w',r1,r2⟩:=Pe htt m fr hne h2 q1 hp;exact⟨v,ρ',w',.inl r1,r2.mem,r2.ext,r2.far,r2.rep⟩
theorem XO {tt:Nat->Option Az}{e':Au}{He:Hp}{n k:Nat}{g:Operand->D}{op:Op}{d:D}{p:Prop}(h:D1 tt [] n k g op=some (d,[e'],p)):
  D1 tt He n k g op=some (d,e'::He,p)/\e'.g=n:=by
 have src:∀ {esz:Nat} {x:D} {r:List D×Prop},Hg [] esz x=some r->Hg He esz x=some r:=λ{esz x r} h=>by
  unfold Hg at h⊢;split at h<;>try exact h
  split at h<;>try(cases h;done)
  rename_i h1;cases h1
 unfold D1 at h⊢;split at h<;>try(cases h;done)
 split at h<;>try(cases h;done)
 rename_i h1
 try rw[h1]
 try dsimp only
 split at h<;>try(cases h;done)
 rename_i h2
 try rw[h2]
 try dsimp only
 split at h<;>try(cases h;done)
 rename_i h3
 try rw[h3]
 try dsimp only
 split at h<;>try(cases h;done)
 rename_i h4
 try rw[h4]
 try dsimp only
 split at h<;>try(cases h;done)
 rename_i h5
 try rw[h5]
 try dsimp only
 split at h<;>try(cases h;done)
 rename_i h6
 try rw[src h6]
 try dsimp only
 split at h<;>try(cases h;done)
 cases h;exact⟨rfl,rfl⟩
theorem dX {H:Hp}{g:Nat}{env:Ar}{o:Oper}{e:Au}{tt:Nat->Option Az}(k:Nat)(htt:Ch C.P tt){d:D}{p:Prop}(hw:CD ops env o=some true)(he:D1 tt [] g k (BE env) o.op=some (d,[e],p))(hp:p):
  B3 C F ops H g env o d (some e):=by
 refine⟨λe' h=>by cases h;exact(XO (He:=[]) he).2,λHe ρ a w m _ fr hne hr=>.inr ⟨Gx hr hw,.inl ?_⟩⟩;obtain⟨g',h1,h2⟩:=HQ hr;rw[ST h1]at he;obtain⟨q1,_⟩:=XO (He:=He) he;obtain⟨v,ρ',w',r1,r2⟩:=Pe htt m fr hne h2 q1 hp;exact⟨v,ρ',w',r1,r2.mem,r2.ext,r2.far,r2.rep⟩
end
noncomputable section
structure FI where
 nt:Nat
 res:List ResultVar
 code:Code
structure EV where
 tt:Nat->Option Az
 xt:Nat->Option XI
 ft:Nat->Option FI
 np:Nat->Bool
 orc:Nat->List D->Option D
 mt:Nat->String->Option Nat
 nat:Nat->List D->Option D
structure FF (C:A8)(X:EV):Prop where
 tt:Ch C.P X.tt
 xt:Lp C.P X.xt
 ft:∀f i,X.ft f=some i->∃fn,C.P.funcs[f]?=some fn/\fn.body=some i.code/\(fn.name == "runtime.NumGoroutine")=false/\DH fn.ntmps i.code=true/\fn.ntmps=i.nt/\fn.results.toList=i.res
 orc:∀f ds d,X.orc f ds=some d->AK C f ds d/\Aj ds
 mixed:C.P.follows .mixedOrders=true
 mt:∀t name f,X.mt t name=some f->∀v w,(method (C.P.types.size+Made.depth) t v name).run C.P w=.ok (f,v) w
 nat:∀f ds d,X.nat f ds=some d->KK C f ds d
noncomputable def Uf (env:Ar)(t:Nat):D:=List.rec (motive:=λ_=>D) .any (λp _ ih=>Bool.rec (motive:=λ_=>D) ih p.2 (Nat.beq p.1 t)) env
theorem YC (t:Nat):∀env:Ar,Uf env t=env.get t
 | []=>rfl
 |(k,d)::r=>by
  show Bool.rec (motive:=λ_=>D) (Uf r t) d (Nat.beq k t)=_;rw[YC t r];simp only[Ar.get];cases Nat.beq k t<;>rfl
noncomputable def M6 (env:Ar)(x:Operand):D:=match x with
 | .tmp t=>Uf env t
 | .const v=>KQ v
 | .global g=>.prim (.pointer (some ⟨g,0,none⟩))
 | .func f=>.clo (.func f) [] []
theorem OA (env:Ar):M6 env=BE env:=by
 funext x
 cases x<;>first|rfl|exact YC _ _
noncomputable def RI (i:Nat)(l:List Nat):Bool:=List.rec (motive:=λ_=>Bool) false (λj _ ih=>Bool.rec (motive:=λ_=>Bool) ih true (Nat.beq i j)) l
theorem X3 (i:Nat):∀l:List Nat,RI i l=CZ i l
 | []=>rfl
 |j::l=>by
  show Bool.rec (motive:=λ_=>Bool) (RI i l) true (Nat.beq i j)=_;rw[X3 i l];simp only[CZ];cases Nat.beq i j<;>rfl
abbrev IA:=Nat->List D->Hp->Nat->Option (D×Hp×Nat)
abbrev HU:=Nat->List D->Option D
def Jk (b:Bool)(r:D×Hp×Nat):Option (D×Hp×Nat):=match b with
 |true=>some r
 |false=>none
def RG (tt:Nat->Option Az)(g:Operand->D)(t:Nat)(x ix:Operand):Option D:=match tt t with
 |some i=>match i.ti with
  | .slice _ esz _ _=>match g ix with
   | .prim (.int _ j)=>match g x with
    | .sl _ sz es=>match Nat.beq sz esz&&decide (0<=j)with
     |true=>match es[j.toNat]? with
      |some d=>some (.pptr d)
      |none=>none
     |false=>none
    |_=>none
   |_=>none
  |_=>none
 |none=>none
def Oc (X:EV)(g:Operand->D)(H:Hp)(n:Nat)(op:Op):Option (D×Hp×Nat):=match GS X.tt g op with
 |some (d,_)=>Jk (L9 X.tt g op) (d,H,n+1)
 |none=>none
def RF (X:EV)(g:Operand->D)(H:Hp)(n:Nat)(op:Op):Option (D×Hp×Nat):=match Fx X.tt X.xt g op with
 |some (d,_)=>Jk (Rk X.xt g op) (d,H,n+1)
 |none=>none
def KG {α:Type}(a:Option α)(b:Option α):Option α:=match a with
 |some x=>some x
 |none=>b
def ce (X:EV)(cl:IA)(g:Operand->D)(H:Hp)(n:Nat)(op:Op):Option (D×Hp×Nat):=match op with
 | .call ⟨.value fop,args,_⟩=>match g fop with
  | .clo (.func f) first captured=>match X.nat f (first++args.toList.map g++captured)with
   |some d=>some (d,H,n+1)
   |none=>cl f (first++args.toList.map g++captured) H n
  |_=>none
 | .call ⟨.invoke r name,args,_⟩=>match g r with
  | .ifc t d0=>match X.mt t name with
   |some f=>cl f (d0::args.toList.map g) H n
   |none=>none
  |_=>none
 | .call ⟨.builtin .append,_,_⟩=>match D1 X.tt H n n g op with
  |some (d,H',_)=>Jk (PD X.tt H g op) (d,H',n+1)
  |none=>none
 | .makeSlice _ _ _=>match Jt X.tt n n g op with
  |some (d,e,_)=>Jk (U6 X.tt g op) (d,e::H,n+1)
  |none=>none
 | .store _ _ _=>match E5 X.tt H g op with
  |some (k,e,_)=>Jk (Rl X.tt H g op) (.prim (.tuple #[]),Hp.set H k e,n+1)
  |none=>none
 | .load _ _ | .alloc _ | .box _ _ | .buildSlice _ _ _=>match EJ X.tt H n n g op with
  |some (d,ne,_)=>Jk (Jx X.tt H g op) (d,Cs ne H,n+1)
  |none=>none
 | .indexAddr t x ix=>KG (Oc X g H n op) (match RG X.tt g t x ix with
  |some d=>some (d,H,n+1)
  |none=>none)
 | .makeInterface _ _ | .lookup _ _ _ _=>RF X g H n op
 | .binOp _ _ _ _ _=>KG (Oc X g H n op) (RF X g H n op)
 |_=>Oc X g H n op
def TY (X:EV)(cl:IA)(ops:Array Oper)(s:St)(o:Oper):Option (D×Hp×Nat):=match CD ops s.env o with
 |some true=>ce X cl (M6 s.env) s.H s.n o.op
 |some false=>some (.prim (.tuple #[]),s.H,s.n+1)
 |none=>none
def Lf (X:EV)(cl:IA)(ops:Array Oper):List Oper->St->Option St
 | [],s=>some s
 |o::os,s=>match TY X cl ops s o with
  |some (d,H',n')=>NO d λd=>Gn n' λn'=>Lf X cl ops os ⟨BZ s.env o.dst d,H',n'⟩
  |none=>none
def Ri (d:D)(H:Hp)(n:Nat):D->Hp->Nat->Prop:=λd1 H1 n1=>d1=d/\H1=H/\n1=n
def MU (C:A8)(cl:IA):Prop:=∀f ds H n d H' n',cl f ds H n=some (d,H',n')->CO C f ds H n (Ri d H' n')
def LN (C:A8)(cp:HU):Prop:=∀f ds d,cp f ds=some d->AK C f ds d/\Aj ds
section
variable {C:A8} {F:Ab} {X:EV} {cl:IA} {cp:HU} {ops:Array Oper}
theorem LG {b:Bool}{r r':D×Hp×Nat}(h:Jk b r=some r'):b=true/\r=r':=by
 cases b
 ·cases h
 ·cases h;exact⟨rfl,rfl⟩
theorem WQ {tt:Nat->Option Az}{g:Operand->D}{t:Nat}{x ix:Operand}{d:D}(h:RG tt g t x ix=some d):∃i e esz eby ez kk j nn es d',tt t=some i/\i.ti=.slice e esz eby ez/\g ix=.prim (.int kk j) /\
  g x=.sl nn esz es/\0<=j/\es[j.toNat]?=some d'/\d=.pptr d':=by
 unfold RG at h;split at h<;>try(cases h;done)
 rename_i i h1;split at h<;>try(cases h;done)
 rename_i e esz eby ez h2;split at h<;>try(cases h;done)
 rename_i kk j h3;split at h<;>try(cases h;done)
 rename_i nn sz es h4;split at h<;>try(cases h;done)
 rename_i h5;split at h<;>try(cases h;done)
 rename_i d' h6;cases h;simp only[Ba,Gk]at h5;obtain rfl:=B4 h5.1;exact⟨i,e,sz,eby,ez,kk,j,nn,es,d',h1,h2,h3,h4,h5.2,h6,rfl⟩
theorem iG (hX:FF C X)(hcl:MU C cl){s:St}{o:Oper}{os:List Oper}{K:St->Prop}{d:D}{H':Hp}{n':Nat}(h:TY X cl ops s o=some (d,H',n'))
  (hk:BH C F ops os ⟨BZ s.env o.dst d,H',n'⟩ K):BH C F ops (o::os) s K:=by
 unfold TY at h;rw[OA]at h;split at h<;>try(cases h;done)
 ·rename_i hw
  have pe:Oc X (BE s.env) s.H s.n o.op=some (d,H',n')->BH C F ops (o::os) s K:=λh=>by
   unfold Oc at h;split at h<;>try(cases h;done)
   rename_i hp;obtain⟨hb,hr⟩:=LG h;cases hr;exact BH.p hX.tt hw hp (Z8 hp hb) hk
  have qe:RF X (BE s.env) s.H s.n o.op=some (d,H',n')->BH C F ops (o::os) s K:=λh=>by
   unfold RF at h;split at h<;>try(cases h;done)
   rename_i hp;obtain⟨hb,hr⟩:=LG h;cases hr;exact BH.q hX.tt hX.xt hw hp (Z9 hp hb) hk
  have le:∀r,(match EJ X.tt s.H s.n s.n (BE s.env) o.op with
    |some (d,ne,_)=>Jk (Jx X.tt s.H (BE s.env) o.op) (d,Cs ne s.H,s.n+1)
    |none=>none)=some r->r=(d,H',n')->BH C F ops (o::os) s K:=λr h hr=>by
   split at h<;>try(cases h;done)
   rename_i hp;obtain⟨hb,hr'⟩:=LG h;rw[<-hr']at hr;cases hr;exact BH.l' s.n hX.tt hw hp (Tt hp hb) hk
  unfold ce at h;split at h
  ·rename_i fop args tys ho
   split at h<;>try(cases h;done)
   rename_i f first captured hf
   split at h
   ·rename_i hn
    cases h;exact BH.nat hw ho hf rfl (hX.nat _ _ _ hn) hk
   refine w9 hw ho hf rfl (hcl _ _ _ _ _ _ _ h) λd1 H1 n1 hΦ=>?_
   obtain⟨rfl,rfl,rfl⟩:=hΦ;exact hk
  ·rename_i r name args tys ho
   split at h<;>try(cases h;done)
   rename_i t d0 hr;split at h<;>try(cases h;done)
   rename_i f hf;refine wh hw ho hr (hX.mt _ _ _ hf) rfl (hcl _ _ _ _ _ _ _ h) λd1 H1 n1 hΦ=>?_
   obtain⟨rfl,rfl,rfl⟩:=hΦ;exact hk
  ·split at h<;>try(cases h;done)
   rename_i hp;obtain⟨hb,hr⟩:=LG h;cases hr;exact dG s.n hX.tt hw hp (Ts hp hb) hk
  ·split at h<;>try(cases h;done)
   rename_i hp;obtain⟨hb,hr⟩:=LG h;cases hr;exact dJ s.n hX.tt hw hp (sO hp hb) hk
  ·split at h<;>try(cases h;done)
   rename_i hp;obtain⟨hb,hr⟩:=LG h;cases hr;exact BH.store hX.tt hw hp (aA hp hb) hk
  ·exact le _ h rfl
  ·exact le _ h rfl
  ·exact le _ h rfl
  ·exact le _ h rfl
  ·rename_i t x ix ho
   unfold KG at h;split at h
   ·rename_i hr;cases h;exact pe hr
   ·split at h<;>try(cases h;done)
    rename_i hi;cases h;obtain⟨i,e,esz,eby,ez,kk,j,nn,es,d',a1,a2,a3,a4,a5,a6,rfl⟩:=WQ hi;exact BH.idx hX.tt hw ho a1 a2 a3 a4 a5 a6 hk
  ·exact qe h
  ·exact qe h
  ·unfold KG at h
   split at h
   ·rename_i hr;cases h;exact pe hr
   ·exact qe h
  ·exact pe h
 ·rename_i hw
  cases h;exact BH.skip hw hk
theorem P9 (hX:FF C X)(hcl:MU C cl){K:St->Prop}:∀ {os:List Oper} {s s':St},Lf X cl ops os s=some s'->K s'->BH C F ops os s K
 | [],s,s',h,hk=>by
  simp only[Lf,BL]at h;subst h;exact BH.nil hk
 |o::os,s,s',h,hk=>by
  simp only[Lf]at h;split at h<;>try(cases h;done)
  rename_i hs;rw[MY,LU]at h;exact iG hX hcl hs (P9 hX hcl h hk)
theorem B3.l' {H:Hp}{g:Nat}{env:Ar}{o:Oper}{tt:Nat->Option Az}(k:Nat)(htt:Ch C.P tt){d:D}{ne:Option Au}{p:Prop}(hw:CD ops env o=some true)(he:EJ tt H g k (BE env) o.op=some (d,ne,p))(hp:p):B3 C F ops H g env o d ne:=by
 refine⟨λe h=>by subst h;exact Xm he,λHe ρ a w m hsub fr hne hr=>.inr ⟨Gx hr hw,.inl ?_⟩⟩;obtain⟨g',h1,h2⟩:=HQ hr;obtain⟨v,ρ',w',r1,r2⟩:=Yw (g:=g') hsub htt m fr hne h2 (by rw[<-iC h1];exact he) hp;exact⟨v,ρ',w',r1,r2⟩
theorem iE {tt:Nat->Option Az}{xt:Nat->Option XI}{g g':Operand->D}{op:Op}(h:∀x∈op.operands,g x=g' x):Fx tt xt g op=Fx tt xt g' op:=by
 cases op<;>simp only[Op.operands]at h<;>try rfl
 case binOp op t x y yt=>simp only[Fx];rw[h x (by simp),h y (by simp)]
 case makeInterface t x=>simp only[Fx];rw[h x (by simp)]
 case lookup t x ix ok=>simp only[Fx];rw[h x (by simp),h ix (by simp)]
theorem B3.q {H:Hp}{g:Nat}{env:Ar}{o:Oper}{tt:Nat->Option Az}{xt:Nat->Option XI}(htt:Ch C.P tt)(hxt:Lp C.P xt){d:D}{p:Prop}(hw:CD ops env o=some true)(he:Fx tt xt (BE env) o.op=some (d,p))(hp:p):
  B3 C F ops H g env o d none:=by
 refine⟨by simp,λHe ρ a w m _ _ _ hr=>.inr ⟨Gx hr hw,.inl ?_⟩⟩;obtain⟨g',h1,h2⟩:=HQ hr;obtain⟨v,r1,r2⟩:=Yy (g:=g') htt hxt h2 (by rw[<-iE h1];exact he) hp;exact⟨v,ρ,w,r1,m,.refl _ _ _,λ_ _ _=>rfl,r2⟩
def M8 (b:Bool)(r:D×Option Au):Option (D×Option Au):=match b with
 |true=>some r
 |false=>none
theorem Ph {b:Bool}{r r':D×Option Au}(h:M8 b r=some r'):b=true/\r=r':=by
 cases b
 ·cases h
 ·cases h;exact⟨rfl,rfl⟩
def PF (X:EV)(g:Operand->D)(op:Op):Option (D×Option Au):=match GS X.tt g op with
 |some (d,_)=>M8 (L9 X.tt g op) (d,none)
 |none=>none
def Ro (X:EV)(g:Operand->D)(op:Op):Option (D×Option Au):=match Fx X.tt X.xt g op with
 |some (d,_)=>M8 (Rk X.xt g op) (d,none)
 |none=>none
def dA (X:EV)(cp:HU)(g:Operand->D)(H:Hp)(n:Nat)(op:Op):Option (D×Option Au):=match op with
 | .call ⟨.value fop,args,_⟩=>match g fop with
  | .clo (.func f) first captured=>match X.nat f (first++args.toList.map g++captured)with
   |some d=>some (d,none)
   |none=>match cp f (first++args.toList.map g++captured)with
    |some d=>some (d,none)
    |none=>none
  |_=>none
 | .call ⟨.builtin .append,_,_⟩=>match D1 X.tt [] n n g op with
  |some (d,[e],_)=>M8 (PD X.tt [] g op) (d,some e)
  |_=>none
 | .load _ _ | .alloc _ | .box _ _ | .buildSlice _ _ _=>match EJ X.tt H n n g op with
  |some (d,ne,_)=>M8 (Jx X.tt H g op) (d,ne)
  |none=>none
 | .indexAddr t x ix=>KG (PF X g op) (match RG X.tt g t x ix with
  |some d=>some (d,none)
  |none=>none)
 | .makeInterface _ _ | .lookup _ _ _ _=>Ro X g op
 | .binOp _ _ _ _ _=>KG (PF X g op) (Ro X g op)
 |_=>PF X g op
def OK (X:EV)(cp:HU)(ops:Array Oper)(H:Hp)(n:Nat)(env:Ar)(o:Oper):Option (D×Option Au):=match CD ops env o with
 |some true=>dA X cp (M6 env) H n o.op
 |some false=>some (.prim (.tuple #[]),none)
 |none=>none
theorem SN (hX:FF C X)(hcp:LN C cp){H:Hp}{n:Nat}{env:Ar}{o:Oper}{d:D}{ne:Option Au}(h:OK X cp ops H n env o=some (d,ne)):B3 C F ops H n env o d ne:=by
 unfold OK at h;rw[OA]at h;split at h<;>try(cases h;done)
 ·rename_i hw
  have pe:PF X (BE env) o.op=some (d,ne)->B3 C F ops H n env o d ne:=λh=>by
   unfold PF at h;split at h<;>try(cases h;done)
   rename_i hp;obtain⟨hb,hr⟩:=Ph h;cases hr;exact B3.p hX.tt hw hp (Z8 hp hb)
  have qe:Ro X (BE env) o.op=some (d,ne)->B3 C F ops H n env o d ne:=λh=>by
   unfold Ro at h;split at h<;>try(cases h;done)
   rename_i hp;obtain⟨hb,hr⟩:=Ph h;cases hr;exact B3.q hX.tt hX.xt hw hp (Z9 hp hb)
  have le:∀r,(match EJ X.tt H n n (BE env) o.op with
    |some (d,ne,_)=>M8 (Jx X.tt H (BE env) o.op) (d,ne)
    |none=>none)=some r->r=(d,ne)->B3 C F ops H n env o d ne:=λr h hr=>by
   split at h<;>try(cases h;done)
   rename_i hp;obtain⟨hb,hr'⟩:=Ph h;rw[<-hr']at hr;cases hr;exact B3.l' n hX.tt hw hp (Tt hp hb)
  unfold dA at h;split at h
  ·rename_i fop args tys ho
   split at h<;>try(cases h;done)
   rename_i f first captured hf
   split at h
   ·rename_i hn
    cases h;exact B3.nat hw ho hf rfl (hX.nat _ _ _ hn)
   split at h<;>try(cases h;done)
   rename_i hc;cases h;obtain⟨c1,c2⟩:=hcp _ _ _ hc;exact B3.call hw ho hf rfl c1 c2
  ·split at h<;>try(cases h;done)
   rename_i hp;obtain⟨hb,hr⟩:=Ph h;cases hr;exact dX n hX.tt hw hp (Ts hp hb)
  ·exact le _ h rfl
  ·exact le _ h rfl
  ·exact le _ h rfl
  ·exact le _ h rfl
  ·rename_i t x ix ho
   unfold KG at h;split at h
   ·rename_i hr;cases h;exact pe hr
   ·split at h<;>try(cases h;done)
    rename_i hi;cases h;obtain⟨i,e,esz,eby,ez,kk,j,nn,es,d',a1,a2,a3,a4,a5,a6,rfl⟩:=WQ hi;exact B3.idx hX.tt hw ho a1 a2 a3 a4 a5 a6
  ·exact qe h
  ·exact qe h
  ·unfold KG at h
   split at h
   ·rename_i hr;cases h;exact pe hr
   ·exact qe h
  ·exact pe h
 ·rename_i hw
  cases h;exact B3.skip hw
def Mt (X:EV)(cp:HU)(ops:Array Oper)(H:Hp)(n:Nat):List Nat->Ar->Hp->Option (Ar×Hp)
 | [],env,N=>some (env,N)
 |i::l,env,N=>match ops[i]? with
  |some o=>match OK X cp ops H (n+i) env o with
   |some (d,ne)=>NO d λd=>Mt X cp ops H n l (BZ env o.dst d) (Cs ne N)
   |none=>none
  |none=>none
theorem XP (hX:FF C X)(hcp:LN C cp){H:Hp}{n:Nat}:∀ {l:List Nat} {env env':Ar} {N N':Hp},Mt X cp ops H n l env N=some (env',N')->IY C F ops H n l env N env' N'
 | [],env,env',N,N',h=>by
  simp only[Mt,BL,Bg]at h;obtain⟨rfl,rfl⟩:=h;exact .nil _ _
 |i::l,env,env',N,N',h=>by
  simp only[Mt]at h;split at h<;>try(cases h;done)
  rename_i o ho;split at h<;>try(cases h;done)
  rename_i d ne hs;rw[MY]at h;exact .cons ho (SN hX hcp hs) (XP hX hcp h)
def Wo (ops:Array Oper)(done:List Nat):List Nat->Option (Nat×List Nat)
 | []=>none
 |i::r=>match Ik (F7 ops i) done with
  |true=>some (i,r)
  |false=>match Wo ops done r with
   |some (j,r')=>some (j,i::r')
   |none=>none
def Ul (ops:Array Oper):Nat->List Nat->List Nat->List Nat
 | 0,done,rest=>done.reverse++rest
 |f+1,done,rest=>match Wo ops done rest with
  |some (i,rest')=>Ul ops f (i::done) rest'
  |none=>done.reverse++rest
def Tz (clo:List (Nat×List Nat)):List Nat->List Nat->List Nat->List Nat->List Nat×List Nat
 |_,[],pre,cur=>(pre.reverse,cur.reverse)
 |done,i::l,pre,cur=>match Ik done (FE clo i)with
  |true=>Tz clo (i::done) l pre (i::cur)
  |false=>Tz clo (i::done) l (i::(cur++pre)) []
def vJ (ops:Array Oper):List Nat×List Nat:=
 Tz (IG ops (Ul ops ops.size [] (List.range ops.size)) []) [] (Ul ops ops.size [] (List.range ops.size)) [] []
def vW:Op->Bool
 | .store _ _ _=>true
 | .call ⟨.builtin .append,_,_⟩=>true
 |_=>false
def bC (ops:Array Oper):List Nat->Option Nat
 | []=>none
 |i::l=>match ops[i]? with
  |some o=>match vW o.op with
   |true=>some i
   |false=>bC ops l
  |none=>none
def dC (i:Nat):List Nat->List Nat
 | []=>[]
 |j::l=>match Nat.beq i j with
  |true=>[]
  |false=>j::dC i l
def vA (g:Operand->D):Op->Option Nat
 | .store _ x _=>match g x with
  | .optr k _ _ _ _=>some k
  |_=>none
 | .call ⟨.builtin .append,args,_⟩=>match args.toList with
  | [s,_]=>match g s with
   | .osl k _ _ _ _=>some k
   |_=>none
  |_=>none
 |_=>none
def Uh (X:EV)(e:Au)(n:Nat)(g:Operand->D)(op:Op):Option (D×Au):=match op with
 | .store _ _ _=>match E5 X.tt [e] g op with
  |some (_,e',_)=>match Rl X.tt [e] g op with
   |true=>some (.prim (.tuple #[]),e')
   |false=>none
  |none=>none
 |_=>match D1 X.tt [e] n n g op with
  |some (d,[e'],_)=>match PD X.tt [e] g op with
   |true=>some (d,e')
   |false=>none
  |_=>none
def II (ia:Option Nat)(i:Nat):Bool:=match ia with
 |some j=>Nat.beq i j
 |none=>false
def HW (ia:Option Nat)(accE:Option Au)(R:Hp)(b:Bool):Hp:=match ia with
 |none=>match accE with
  |some e=>match b with
   |true=>e::R
   |false=>R
  |none=>R
 |some _=>R
def Im (X:EV)(cp:HU)(ops:Array Oper)(iw:Nat)(ia:Option Nat)(R:Hp)(clo:List Nat)(n:Nat):List Nat->Ar->Hp->Option Au->Option Au->Option (Ar×Hp×Au×Au)
 | [],env,N,accE,acc=>match accE with
  |some e=>match acc with
   |some e'=>some (env,N,e,e')
   |none=>none
  |none=>none
 |i::l,env,N,accE,acc=>match ops[i]? with
  |some o=>match Nat.beq i iw with
   |true=>match acc with
    |some _=>none
    |none=>match accE with
     |some e=>match CD ops env o with
      |some true=>match Uh X e (n+i) (M6 env) o.op with
       |some (d,e')=>Im X cp ops iw ia R clo n l (BZ env o.dst d) N accE (some e')
       |none=>none
      |_=>none
     |none=>none
   |false=>match II ia i with
    |true=>match accE with
     |some _=>none
     |none=>match OK X cp ops R (n+i) env o with
      |some (d,some e)=>NO d λd=>Im X cp ops iw ia R clo n l (BZ env o.dst d) N (some e) acc
      |_=>none
    |false=>match OK X cp ops (HW ia accE R (CZ i clo)) (n+i) env o with
     |some (d,ne)=>NO d λd=>Im X cp ops iw ia R clo n l (BZ env o.dst d) (Cs ne N) accE acc
     |none=>none
  |none=>none
theorem K7 {iw:Nat}{ia:Option Nat}{R:Hp}{clo:List Nat}{n:Nat}:∀ {l:List Nat} {env env':Ar} {N N':Hp} {accE acc:Option Au} {e e':Au},Im X cp ops iw ia R clo n l env N accE acc=some (env',N',e,e') ->
  (∀a,accE=some a->e=a)/\(∀a,acc=some a->e'=a)
 | [],_,_,_,_,_,_,_,_,h=>by
  simp only[Im]at h;split at h<;>try(cases h;done)
  split at h<;>try(cases h;done)
  simp only[BL,Bg]at h;exact⟨λa ha=>by cases ha;exact h.2.2.1.symm,λa ha=>by cases ha;exact h.2.2.2.symm⟩
 |i::l,_,_,_,_,_,_,_,_,h=>by
  simp only[Im]at h;split at h<;>try(cases h;done)
  split at h
  ·split at h<;>try(cases h;done)
   split at h<;>try(cases h;done)
   split at h<;>try(cases h;done)
   split at h<;>try(cases h;done)
   exact⟨(K7 h).1,by simp⟩
  ·split at h
   ·split at h<;>try(cases h;done)
    split at h<;>try(cases h;done)
    rw[MY]at h;exact⟨by simp,(K7 h).2⟩
   ·split at h<;>try(cases h;done)
    rw[MY]at h;exact K7 h
theorem lk (hX:FF C X){W:WR}{n:Nat}{env:Ar}{o:Oper}{d:D}(hw:CD ops env o=some true)(h:Uh X W.e n (BE env) o.op=some (d,W.e')):Hw C F ops W n env o d:=by
 unfold Uh at h;split at h
 ·split at h<;>try(cases h;done)
  rename_i he;split at h<;>try(cases h;done)
  rename_i hk;simp only[BL,Bg]at h;obtain⟨rfl,h2⟩:=h;rw[h2]at he;exact Hw.store hX.tt hw he (aA he hk)
 ·split at h<;>try(cases h;done)
  rename_i he;split at h<;>try(cases h;done)
  rename_i hk;simp only[BL,Bg]at h;obtain⟨rfl,h2⟩:=h;rw[h2]at he;exact Hw.app n hX.tt hw he (Ts he hk)
theorem Pu {ia:Option Nat}{i:Nat}:II ia i=true↔ia=some i:=by
 cases ia with
 |none=>simp[II]
 |some j=>
  simp only[II,BL];exact⟨λh=>(B4 h).symm,λh=>by rw[h];exact Kq _⟩
theorem Pf (hX:FF C X)(hcp:LN C cp){W:WR}(hwa:W.ia≠some W.iw){clo:List Nat}(hclo:∀j∈clo,DR ops W.iw j){n:Nat}:∀ {l:List Nat} {env env':Ar} {N N':Hp} {accE acc:Option Au},
  Im X cp ops W.iw W.ia W.R clo n l env N accE acc=some (env',N',W.e,W.e')->IF C F ops W n l env N env' N'
 | [],env,env',N,N',accE,acc,h=>by
  simp only[Im]at h;split at h<;>try(cases h;done)
  split at h<;>try(cases h;done)
  simp only[BL,Bg]at h;obtain⟨rfl,rfl,_⟩:=h;exact .nil _ _
 |i::l,env,env',N,N',accE,acc,h=>by
  simp only[Im,OA]at h;split at h<;>try(cases h;done)
  rename_i o ho;split at h
  ·rename_i hb
   have hb:=B4 hb;split at h<;>try(cases h;done)
   split at h<;>try(cases h;done)
   rename_i e0;split at h<;>try(cases h;done)
   rename_i hw;split at h<;>try(cases h;done)
   rename_i d e1 he;obtain⟨h1,h2⟩:=K7 h;rw[<-h1 _ rfl,<-h2 _ rfl]at he;exact .cons (ne:=none) ho (.inr (.inl ⟨hb,by rw[hb];exact hwa,rfl,lk hX hw he⟩)) (Pf hX hcp hwa hclo h)
  ·rename_i hb
   have hne:i≠W.iw:=λhi=>by rw[hi,Kq]at hb;cases hb
   split at h
   ·rename_i hi
    have hi:=Pu.1 hi;split at h<;>try(cases h;done)
    split at h<;>try(cases h;done)
    rename_i d e0 hs;rw[MY]at h;have h1:=(K7 h).1 _ rfl;rw[<-h1]at hs;exact .cons (ne:=none) ho (.inr (.inr ⟨hne,hi,rfl,SN (F:=F) hX hcp hs⟩)) (Pf hX hcp hwa hclo h)
   ·rename_i hi
    have hi:W.ia≠some i:=λh=>by rw[Pu.2 h]at hi;cases hi
    split at h<;>try(cases h;done)
    rename_i d ne hs;rw[MY]at h;have hacc:=(K7 h).1;refine .cons ho (.inl ⟨hne,hi,?_⟩) (Pf hX hcp hwa hclo h);have hst:=SN (F:=F) hX hcp hs;unfold HW at hst;cases hia:W.ia with
    |none=>
     rw[hia]at hst;cases accE with
     |none=>exact .inr hst
     |some a=>
      have:=hacc a rfl
      subst this;dsimp only at hst;cases hm:CZ i clo with
      |true=>rw[hm]at hst;exact .inl ⟨rfl,hclo i (Gv.1 hm),hst⟩
      |false=>rw[hm]at hst;exact .inr hst
    |some ia=>rw[hia]at hst;exact .inr hst
def ay (s:St)(N1:Hp)(k:Nat):Option (Option Nat×Option Au×Hp):=match Hp.get s.H k with
 |some e=>some (none,some e,Hp.del s.H k)
 |none=>match Hp.get N1 k with
  |some e=>some (some (e.g-s.n),none,s.H)
  |none=>none
def ck (n:Nat)(pre clo:List Nat)(e:Au)(iw:Nat):Option Nat->Bool
 |none=>true
 |some ia=>Nat.beq e.g (n+ia)&&CZ ia clo&&CZ ia pre && !(Nat.beq ia iw)
def Xl (X:EV)(cl:IA)(cp:HU)(ops:Array Oper)(pre suf:List Nat)(iw:Nat)(s:St):Option St:=match Mt X cp ops s.H s.n (dC iw pre) s.env []with
 |some (env1,N1)=>match vA (M6 env1) (ops.getD iw default).op with
  |some k=>match ay s N1 k with
   |some (ia,accE,R)=>match CZ iw pre with
    |true=>match Im X cp ops iw ia R (FE (IG ops (pre++suf) []) iw) s.n pre s.env [] accE none with
     |some (env,N,e,e')=>match (Nat.beq e'.g e.g||Nat.beq e'.g (s.n+iw))&&ck s.n pre (FE (IG ops (pre++suf) []) iw) e iw ia with
      |true=>Gn (s.n+ops.size) λn=>Lf X cl ops (suf.map λj=>ops.getD j default) ⟨env,N++e'::R,n⟩
      |false=>none
     |none=>none
    |false=>none
   |none=>none
  |none=>none
 |none=>none
def TX (X:EV)(cl:IA)(cp:HU)(ops:Array Oper)(s:St):Option St:=match vJ ops with
 |(pre,suf)=>match G7 ops pre suf with
  |true=>match (match bC ops pre with
    |some iw=>Xl X cl cp ops pre suf iw s
    |none=>none)with
   |some s'=>some s'
   |none=>match Mt X cp ops s.H s.n pre s.env []with
    |some (env,N)=>Gn (s.n+ops.size) λn=>Lf X cl ops (suf.map λj=>ops.getD j default) ⟨env,N++s.H,n⟩
    |none=>none
  |false=>none
noncomputable def dd (e:Ar):List Nat->Ar:=List.rec (motive:=λ_=>List Nat->Ar) (λ_=>[]) (λp _ ih seen=>Bool.rec (motive:=λ_=>Ar) (p::ih (p.1::seen)) (ih seen) (RI p.1 seen)) e
theorem l9 (k:Nat)(d:D)(r:Ar)(seen:List Nat):dd ((k,d)::r) seen=match CZ k seen with
  |true=>dd r seen
  |false=>(k,d)::dd r (k::seen):=by
 show Bool.rec (motive:=λ_=>Ar) _ _ (RI k seen)=_;rw[X3];cases CZ k seen<;>rfl
theorem Tk:∀(e:Ar) (seen:List Nat) (t:Nat),t∉seen->(dd e seen).get t=e.get t
 | [],_,_,_=>rfl
 |(k,d)::r,seen,t,h=>by
  rw[l9];cases hb:CZ k seen with
  |true=>
   dsimp only;have hk:k≠t:=λhk=>h (hk ▸ Gv.1 hb)
   rw[Tk r seen t h,IL,AG hk]
  |false=>
   dsimp only;rw[IL,IL]
   by_cases hk:k=t
   ·rw[AH hk,AH hk]
   ·rw[AG hk,AG hk,Tk r (k::seen) t (by simp;exact⟨λh=>hk h.symm,h⟩)]
def NB (f:D->List Nat->List Nat):List D->List Nat->List Nat
 | [],acc=>acc
 |d::l,acc=>NB f l (f d acc)
def Jm:Nat->D->List Nat->List Nat
 | 0,_,acc=>acc
 |n+1,d,acc=>match d with
  | .osl k _ _ _ _=>k::acc
  | .optr k _ _ _ _=>k::acc
  | .agg l=>NB (Jm n) l acc
  | .tup l=>NB (Jm n) l acc
  | .clo _ a b=>NB (Jm n) a (NB (Jm n) b acc)
  | .gd _ d=>Jm n d acc
  | .ifc _ d=>Jm n d acc
  |_=>acc
def aG:Ar->List Nat->List Nat
 | [],acc=>acc
 |(_,d)::r,acc=>aG r (Jm 5 d acc)
def Q5:Hp->List Nat->List Nat
 | [],acc=>acc
 |e::r,acc=>Q5 r (NB (Jm 5) e.es acc)
def KZ (p:Au->Bool):Hp->Hp
 | []=>[]
 |e::r=>match p e with
  |true=>e::KZ p r
  |false=>KZ p r
theorem Pi (p:Au->Bool):∀H:Hp,(KZ p H).Sublist H
 | []=>.slnil
 |e::r=>by
  simp only[KZ];split
  ·exact(Pi p r).cons_cons e
  ·exact(Pi p r).cons e
def M5 {α:Type}:List Nat->(List Nat->α)->α
 | [],k=>k []
 |n::l,k=>Gn n λn=>M5 l λl=>k (n::l)
theorem QC {α:Type}:∀(l:List Nat) (k:List Nat->α),M5 l k=k l
 | [],_=>rfl
 |n::l,k=>by simp only[M5,LU,QC l]
def Oi {α:Type}:Hp->(Hp->α)->α
 | [],k=>k []
 |e::l,k=>Oi l λl=>k (e::l)
theorem TU {α:Type}:∀(l:Hp) (k:Hp->α),Oi l k=k l
 | [],_=>rfl
 |e::l,k=>by simp only[Oi,TU l]
def U2 {α:Type}(n:Nat)(env:Ar)(H:Hp)(k:Hp->α):α:=M5 (Q5 H (aG env [])) λks=>Oi (KZ (λe=>match Nat.blt e.g n with
  |true=>true
  |false=>CZ e.k ks) H) k
theorem sw {α:Type}(n:Nat)(env:Ar)(H:Hp)(k:Hp->α):∃H':Hp,H'.Sublist H/\U2 n env H k=k H':=⟨_,Pi _ _,by unfold U2;rw[QC,TU]⟩
def U3 {α:Type}(n:Nat)(d:D)(H:Hp)(k:Hp->α):α:=
 M5 (Q5 (KZ (λe=>Nat.blt e.g n) H) (Jm 5 d [])) λks=>M5 (Q5 (KZ (λe=>CZ e.k ks) H) ks) λks=>Oi (KZ (λe=>match Nat.blt e.g n with
  |true=>true
  |false=>CZ e.k ks) H) k
theorem sx {α:Type}(n:Nat)(d:D)(H:Hp)(k:Hp->α):∃H':Hp,H'.Sublist H/\U3 n d H k=k H':=⟨_,Pi _ _,by unfold U3;rw[QC,QC,TU]⟩
def OW (f:St->Option (Exit×St))(n0:Nat):Nat->St->Option (Exit×St)
 | 0,_=>none
 |k+1,s=>U2 n0 s.env s.H λH=>match f ⟨dd s.env [],H,s.n⟩with
  |some (.normal,s')=>OW f n0 k s'
  |r=>r
def Ds (X:EV)(cl:IA)(cp:HU)(lf:Nat):Code->St->Option (Exit×St)
 | .skip,s=>some (.normal,s)
 | .region _ ops draw,s=>match draw with
  |true=>match TX X cl cp ops s with
   |some s'=>some (.normal,s')
   |none=>none
  |false=>match Lf X cl ops ops.toList s with
   |some s'=>some (.normal,s')
   |none=>none
 | .seq a b,s=>match Ds X cl cp lf a s with
  |some (.normal,s')=>Ds X cl cp lf b s'
  |r=>r
 | .cond c a b,s=>match M6 s.env c with
  | .prim (.bool true)=>Ds X cl cp lf a s
  | .prim (.bool false)=>Ds X cl cp lf b s
  |_=>none
 | .block i b,s=>match Ds X cl cp lf b s with
  |some (.exit j,s')=>match Nat.beq j i with
   |true=>some (.normal,s')
   |false=>some (.exit j,s')
  |r=>r
 | .loop b,s=>OW (Ds X cl cp lf b) (lf/1048576) (lf%1048576) s
 | .exit i,s=>some (.exit i,s)
 | .ret,s=>some (.ret,s)
 |_,_=>none
def isS (e:Exit)(s:St):Exit->St->Prop:=λe1 s1=>e1=e/\s1=s
theorem wY {c:Code}{s s2:St}{Q:Exit->St->Prop}(he:∀t,s2.env.get t=s.env.get t)(hH:s2.H=s.H)(hn:s2.n=s.n)(h:Ok C F c s2 Q):Ok C F c s Q:=
 λhd ρ a w hs=>h hd ρ a w ⟨by rw[hH];exact hs.mem,by rw[hn];exact hs.fresh,by rw[hH,hn];exact hs.gen,λt=>by rw[he,hH];exact hs.env t,hs.nt,hs.dfr⟩
theorem Ok.subH {c:Code}{env:Ar}{H H':Hp}{n:Nat}{Q:Exit->St->Prop}(hs:H'.Sublist H)(h:Ok C F c ⟨env,H',n⟩ Q):Ok C F c ⟨env,H,n⟩ Q:=
 λhd ρ a w hS=>by
  obtain⟨m,hO⟩:=hS.mem.sub hs;exact h hd ρ a w ⟨m,hS.fresh,λe he=>hS.gen e (hs.subset he),λt=>(hS.env t).anti hO,hS.nt,hS.dfr⟩
theorem CO.subH {f:Nat}{ds:List D}{H H1 H2:Hp}{n n':Nat}{d:D}(hs:H2.Sublist H1)(h:CO C f ds H n (Ri d H1 n')):CO C f ds H n (Ri d H2 n'):=by
 refine⟨h.1,λF ρ w vs m hfr hg hvs hr=>(h.2 F ρ w vs m hfr hg hvs hr).mono ?_⟩;rintro e w' ⟨v,d',H',n2,ρ',rfl,⟨rfl,rfl,rfl⟩,m',x,fr,gn,rep⟩;obtain⟨m2,hO⟩:=m'.sub hs;exact⟨v,_,_,_,ρ',rfl,⟨rfl,rfl,rfl⟩,m2,⟨x.size,x.link,λb hb hb'=>⟨λh=>(x.pure b hb hb').1 (hO b h),(x.pure b hb hb').2⟩,x.shape⟩,fr,λe he=>gn e (hs.subset he),rep.anti hO⟩
theorem iB (hX:FF C X)(hcl:MU C cl)(hcp:LN C cp){i:Nat}{s s':St}(h:TX X cl cp ops s=some s'):Ok C F (.region i ops true) s (isS .normal s'):=by
 unfold TX at h;split at h;rename_i pre suf ho;split at h<;>try(cases h;done)
 rename_i hc;split at h
 ·rename_i s1 hh
  cases h
  revert hh
  intro h;split at h<;>try(cases h;done)
  rename_i iw _;unfold Xl at h;simp only[OA]at h;split at h<;>try(cases h;done)
  split at h<;>try(cases h;done)
  split at h<;>try(cases h;done)
  rename_i k _ ia accE R hwb;split at h<;>try(cases h;done)
  rename_i hm;split at h<;>try(cases h;done)
  rename_i env N e e' hp;split at h<;>try(cases h;done)
  rename_i hg;rw[LU]at h;simp only[Ba,L1]at hg;obtain⟨hg1,hg2⟩:=hg;have hreach:∀j∈FE (IG ops (pre++suf) []) iw,DR ops iw j:=λj hj=>Nc (NW _ _ (by simp)) _ _ hj
  have hia:∀j,ia=some j->e.g=s.n+j/\DR ops iw j/\j∈pre/\j≠iw:=λj hj=>by
   subst hj;simp only[ck,Ba,Bi]at hg2;exact⟨B4 hg2.1.1.1,hreach j (Gv.1 hg2.1.1.2),Gv.1 hg2.1.2,λh=>by rw[h,Kq]at hg2;cases hg2.2⟩
  have hacc:=(K7 hp).1;have hst:s.H.Perm (WR.start ⟨iw,ia,e,e',R⟩):=by
   unfold ay at hwb;split at hwb
   ·rename_i e0 he
    cases hwb;obtain⟨H1,H2,q1,_,q3⟩:=Lz e0 he;rw[q3,hacc e0 rfl];unfold WR.start;rw[q1];exact Gl
   ·split at hwb<;>try(cases hwb;done)
    cases hwb;exact List.Perm.refl _
  exact xW (W:=⟨iw,ia,e,e',R⟩) hX.mixed hc hst (λj hj=>⟨(hia j hj).1,(hia j hj).2.1,(hia j hj).2.2.1⟩) (Gv.1 hm) (hg1.imp B4 B4)
   (Pf (W:=⟨iw,ia,e,e',R⟩) hX hcp (λh=>(hia iw h).2.2.2 rfl) hreach hp) (P9 hX hcl h ⟨rfl,rfl⟩)
 ·split at h<;>try(cases h;done)
  rename_i env N hp;rw[LU]at h;exact xU hX.mixed hc (XP hX hcp hp) (P9 hX hcl h ⟨rfl,rfl⟩)
theorem Hv (hX:FF C X)(hcl:MU C cl)(hcp:LN C cp){lf:Nat}:∀ {c:Code} {s s':St} {e:Exit},Ds X cl cp lf c s=some (e,s')->Ok C F c s (isS e s')
 | .skip,s,s',e,h=>by simp only[Ds,BL,Bg]at h;obtain⟨rfl,rfl⟩:=h;exact Ok.skip ⟨rfl,rfl⟩
 | .region i ops draw,s,s',e,h=>by
  simp only[Ds]at h;split at h
  ·split at h<;>try(cases h;done)
   rename_i hd;cases h;exact iB hX hcl hcp hd
  ·split at h<;>try(cases h;done)
   rename_i hd;cases h;exact Ok.region (P9 hX hcl hd ⟨rfl,rfl⟩)
 | .seq a b,s,s',e,h=>by
  simp only[Ds]at h;refine Ok.seq ?_;split at h
  ·rename_i s1 h1
   refine(Hv hX hcl hcp h1).mono ?_;rintro _ _ ⟨rfl,rfl⟩;exact Hv hX hcl hcp h
  ·rename_i hne
   refine(Hv hX hcl hcp h).mono ?_;rintro e1 s1 ⟨h1,h2⟩;rw[h1,h2];cases e with
   |normal=>exact AZ h (hne _)
   |_=>exact⟨rfl,rfl⟩
 | .cond c a b,s,s',e,h=>by
  simp only[Ds,OA]at h;have hr:∀x,BE s.env c=.prim (.bool x)->∀ρ a w,Bj C F ρ s a w->a.eval c=.bool x:=λx hx ρ a w hs=>by
   have:=DG hs.env c
   rw[hx]at this;generalize a.eval c=v at this;cases this;rfl
  split at h
  ·rename_i hx
   exact Ok.cond true (hr _ hx) (λ_=>Hv hX hcl hcp h) (λh=>by cases h)
  ·rename_i hx
   exact Ok.cond false (hr _ hx) (λh=>by cases h) (λ_=>Hv hX hcl hcp h)
  ·cases h
 | .block i b,s,s',e,h=>by
  simp only[Ds]at h;refine Ok.block ?_;split at h
  ·rename_i j s1 h1
   refine(Hv hX hcl hcp h1).mono ?_;rintro _ _ ⟨rfl,rfl⟩;dsimp only;split at h
   ·rename_i hb
    cases h;rw[AH (B4 hb)];exact⟨rfl,rfl⟩
   ·rename_i hb
    cases h;rw[AG (λhj=>by rw[hj,Kq]at hb;cases hb)];exact⟨rfl,rfl⟩
  ·rename_i hne
   refine(Hv hX hcl hcp h).mono ?_;rintro e1 s1 ⟨h1,h2⟩;rw[h1,h2];cases e with
   |exit j=>exact AZ h (hne _ _)
   |_=>exact⟨rfl,rfl⟩
 | .loop b,s,s',e,h=>by
  simp only[Ds]at h;refine Ok.loop (λm s=>OW (Ds X cl cp lf b) (lf/1048576) m s=some (e,s')) h λm s1 hI=>?_
  cases m with
  |zero=>cases hI
  |succ m=>
   simp only[OW]at hI;obtain⟨H2,hsub,hgc⟩:=sw (α:=Option (Exit×St)) (lf/1048576) s1.env s1.H (λH=>match Ds X cl cp lf b ⟨dd s1.env [],H,s1.n⟩with
    |some (.normal,s')=>OW (Ds X cl cp lf b) (lf/1048576) m s'
    |r=>r)
   rw[hgc]at hI;refine wY (s2:=⟨dd s1.env [],s1.H,s1.n⟩) (λt=>Tk _ _ _ (by simp)) rfl rfl ?_;refine Ok.subH hsub ?_;split at hI
   ·rename_i s2 h2
    refine(Hv hX hcl hcp h2).mono ?_;rintro _ _ ⟨rfl,rfl⟩;exact⟨m,HF m,hI⟩
   ·rename_i hne
    refine(Hv hX hcl hcp hI).mono ?_;rintro e1 s1 ⟨h1,h2⟩;rw[h1,h2];cases e with
    |normal=>exact AZ hI (hne _)
    |_=>exact⟨rfl,rfl⟩
 | .exit i,s,s',e,h=>by simp only[Ds,BL,Bg]at h;obtain⟨rfl,rfl⟩:=h;exact Ok.exit ⟨rfl,rfl⟩
 | .ret,s,s',e,h=>by simp only[Ds,BL,Bg]at h;obtain⟨rfl,rfl⟩:=h;exact Ok.ret ⟨rfl,rfl⟩
 | .rangeFunc ..,_,_,_,h=>by simp[Ds]at h
 | .scope _,_,_,_,h=>by simp[Ds]at h
 | .label _,_,_,_,h=>by simp[Ds]at h
 | .goto _,_,_,_,h=>by simp[Ds]at h
 | .refuse _,_,_,_,h=>by simp[Ds]at h
def okR (tt:Nat->Option Az)(s:St):List ResultVar->Bool
 | []=>true
 | .tmp _::r=>okR tt s r
 | .cell a t::r=>Jx tt s.H (λ_=>s.env.get a) (.load t (.tmp 0))&&okR tt s r
theorem Qi {tt:Nat->Option Az}{s:St}:∀ {rs:List ResultVar} {l:List D} {p:Prop},JS tt s rs=some (l,p)->okR tt s rs=true->p
 | [],_,_,h,_=>by simp only[JS,BL,Bg]at h;obtain⟨_,rfl⟩:=h;trivial
 |r::rs,l,p,h,hk=>by
  simp only[JS]at h;split at h<;>try(cases h;done)
  rename_i d q h1;split at h<;>try(cases h;done)
  rename_i l' q' h2;cases h;cases r with
  |tmp t=>
   simp only[Mj,BL,Bg]at h1;obtain⟨_,rfl⟩:=h1;exact⟨trivial,Qi h2 hk⟩
  |cell a t=>
   simp only[okR,Ba]at hk;simp only[Mj]at h1;split at h1<;>try(cases h1;done)
   rename_i he;cases h1;exact⟨Tt he hk.1,Qi h2 hk.2⟩
def Q3 (tt:Nat->Option Az)(s:St)(rs:List ResultVar):Option (D×Hp×Nat):=match IK tt s rs with
 |some (d,_)=>Jk (okR tt s rs) (d,s.H,s.n)
 |none=>none
theorem XQ {tt:Nat->Option Az}{s:St}{rs:List ResultVar}{d:D}{H:Hp}{n:Nat}(h:Q3 tt s rs=some (d,H,n)):∃p,IK tt s rs=some (d,p)/\p/\H=s.H/\n=s.n:=by
 unfold Q3 at h;split at h<;>try(cases h;done)
 rename_i d' p hr;obtain⟨hb,he⟩:=LG h;cases he;refine⟨p,hr,?_,rfl,rfl⟩;unfold IK at hr;split at hr<;>try(cases hr;done)
 ·rename_i ha;cases hr;exact Qi ha hb
 ·rename_i ha;cases hr;exact Qi ha hb
def Q6 (X:EV)(cl:IA)(cp:HU)(lf f:Nat)(ds:List D)(H:Hp)(n:Nat):Option (D×Hp×Nat):=match X.ft f with
 |some i=>match Nat.ble ds.length i.nt with
  |true=>match Ds X cl cp (lf+n*1048576) i.code ⟨DJ 0 ds,H,n⟩with
   |some (.normal,s)=>Q3 X.tt s i.res
   |some (.ret,s)=>Q3 X.tt s i.res
   |_=>none
  |false=>none
 |none=>none
def Qq (X:EV)(cl:IA)(cp:HU)(lf f:Nat)(ds:List D):Option D:=match X.orc f ds with
 |some d=>some d
 |none=>match X.np f with
  |true=>none
  |false=>match HZ (G4 20) ds with
   |true=>match Q6 X cl cp lf f ds [] 0 with
    |some (d,H,_)=>NQ 20 H d
    |none=>none
   |false=>none
def GR (X:EV)(lf:Nat):Nat->HU×IA
 | 0=>(λ_ _=>none,λ_ _ _ _=>none)
 |fu+1=>(Qq X (GR X lf fu).2 (GR X lf fu).1 lf,λf ds H n=>match Qq X (GR X lf fu).2 (GR X lf fu).1 lf f ds with
  |some d=>some (d,H,n+1)
  |none=>match Q6 X (GR X lf fu).2 (GR X lf fu).1 lf f ds H n with
   |some (d,H',n')=>U3 n d H' λH2=>some (d,H2,n')
   |none=>none)
theorem XW (hX:FF C X){lf f:Nat}{ds:List D}{H H':Hp}{n n':Nat}{d:D}(h:Q6 X cl cp lf f ds H n=some (d,H',n')):
  ∃fn i e s p,X.ft f=some i/\C.P.funcs[f]?=some fn/\fn.body=some i.code/\(fn.name == "runtime.NumGoroutine")=false/\DH fn.ntmps i.code=true/\Nat.ble ds.length fn.ntmps=true /\
   (e=.normal\/e=.ret)/\Ds X cl cp (lf+n*1048576) i.code ⟨DJ 0 ds,H,n⟩=some (e,s)/\IK X.tt s fn.results.toList=some (d,p)/\p/\H'=s.H/\n'=s.n:=by
 unfold Q6 at h;split at h<;>try(cases h;done)
 rename_i i hi;obtain⟨fn,a1,a2,a3,a4,a5,a6⟩:=hX.ft f i hi;split at h<;>try(cases h;done)
 rename_i hb;split at h<;>try(cases h;done)
 ·rename_i s hc
  obtain⟨p,b1,b2,b3,b4⟩:=XQ h;exact⟨fn,i,.normal,s,p,hi,a1,a2,a3,a4,by rw[a5];exact hb,.inl rfl,hc,by rw[a6];exact b1,b2,b3,b4⟩
 ·rename_i s hc
  obtain⟨p,b1,b2,b3,b4⟩:=XQ h;exact⟨fn,i,.ret,s,p,hi,a1,a2,a3,a4,by rw[a5];exact hb,.inr rfl,hc,by rw[a6];exact b1,b2,b3,b4⟩
theorem Wp (hX:FF C X)(hcl:MU C cl)(hcp:LN C cp){lf f:Nat}{ds:List D}{d:D}(h:Qq X cl cp lf f ds=some d):AK C f ds d/\Aj ds:=by
 unfold Qq at h;split at h
 ·rename_i ho;cases h;exact hX.orc _ _ _ ho
 ·split at h<;>try(cases h;done)
  split at h<;>try(cases h;done)
  rename_i hp;split at h<;>try(cases h;done)
  rename_i d0 H0 n0 hr;obtain⟨fn,i,e,s,p,_,a1,a2,a3,a4,a5,a6,a7,a8,a9,rfl,rfl⟩:=XW hX hr;obtain⟨z1,z2⟩:=KR h;refine⟨Ak.intro hX.tt a1 a2 a3 a4 a5 λF=>(Hv hX hcl hcp a7).mono ?_,⟨λx hx=>Gw (Ih hp x hx)⟩⟩;rintro _ _ ⟨rfl,rfl⟩;exact⟨a6,d0,p,a8,a9,d,z1,z2,rfl⟩
theorem CO.ofPure {f:Nat}{ds:List D}{d:D}{H:Hp}{n:Nat}(h:AK C f ds d)(hp:Aj ds):CO C f ds H n (Ri d H (n+1)):=by
 refine⟨h.1,λF ρ w vs m hfr hg hvs hr=>(h.2 (AM F.X ρ H) w vs m.g (BR m.gn m.size) (λb hb=>m.own_lt hb) hvs λi x hx=>hp.out x (A0 hx) _ _ _ _ _ (hr i x hx)).mono ?_⟩;rintro e w' ⟨v,d',rfl,hb,rfl,hrep⟩;have x:BQ ρ (AM F.X ρ H) w ρ (AM F.X ρ H) w':=⟨hb.size,λ_ _ _ h=>h,λb hb' hO=>⟨hO,hb.block b hb'⟩,λb cs T fz hh=>⟨cs,_,by
  rw[hb.block b (Array.getElem?_eq_some_iff.1 hh).1];exact hh,rfl⟩⟩
 exact⟨v,_,_,_,ρ,rfl,⟨rfl,rfl,rfl⟩,m.same x hb.os hb.tape hb.output hb.block,x,λk g hg=>hfr k g (by omega),λe he=>DE (hg e he),hrep.nol⟩
theorem Yv (hX:FF C X)(lf:Nat):∀fu,LN C (GR X lf fu).1/\MU C (GR X lf fu).2
 | 0=>⟨λ_ _ _ h=>by simp[GR]at h,λ_ _ _ _ _ _ _ h=>by simp[GR]at h⟩
 |fu+1=>by
  obtain⟨hcp,hcl⟩:=Yv hX lf fu;refine⟨λf ds d h=>Wp hX hcl hcp h,λf ds H n d H' n' h=>?_⟩;simp only[GR]at h;split at h
  ·rename_i d0 hp
   cases h;obtain⟨h1,h2⟩:=Wp hX hcl hcp hp;exact .ofPure h1 h2
  ·split at h<;>try(cases h;done)
   rename_i d1 H1 n1 hrun;obtain⟨H2,hsub,hgc⟩:=sx (α:=Option (D×Hp×Nat)) n d1 H1 (λH2=>some (d1,H2,n1));rw[hgc]at h;cases h;refine CO.subH hsub ?_;obtain⟨fn,i,e,s,p,_,a1,a2,a3,a4,a5,a6,a7,a8,a9,rfl,rfl⟩:=XW hX hrun;refine CO.intro hX.tt a1 a2 a3 a4 a5 λF _=>(Hv hX hcl hcp a7).mono ?_
   rintro _ _ ⟨rfl,rfl⟩;exact⟨a6,d,p,a8,a9,rfl,rfl,rfl⟩
theorem CE (hX:FF C X)(lf fu:Nat){f:Nat}{ds:List D}{d:D}(h:(GR X lf fu).1 f ds=some d):AK C f ds d:=((Yv hX lf fu).1 f ds d h).1
end
end
inductive Bt (α:Type) where
 |nil
 |node (k:Nat) (v:α) (l r:Bt α)
def Bt.get {α:Type}:Bt α->Nat->Option α
 | .nil,_=>none
 | .node k v l r,t=>match Nat.beq t k with
  |true=>some v
  |false=>match Nat.ble t k with
   |true=>l.get t
   |false=>r.get t
def Bt.toL {α:Type}:Bt α->List (Nat×α)
 | .nil=>[]
 | .node k v l r=>(k,v)::(l.toL++r.toL)
theorem Bt.get_mem {α:Type}:∀ {b:Bt α} {t:Nat} {v:α},b.get t=some v->(t,v)∈b.toL
 | .nil,_,_,h=>by cases h
 | .node k v l r,t,u,h=>by
  simp only[Bt.get]at h;split at h
  ·rename_i hb;cases h;rw[B4 hb];exact Cg ..
  ·split at h
   ·exact Cn _ (Jq _ (Bt.get_mem h))
   ·exact Cn _ (List.mem_append_right _ (Bt.get_mem h))
theorem xQ {P:Program}{b:Bt Az}(h:b.toL.map (λp=>D7 P p.1)=b.toL.map (λp=>some p.2)):Ch P b.get:=λt i hi=>by
 have hm:=Bt.get_mem hi;obtain⟨j,hj,he⟩:=NJ hm
 have:=congrArg (λl=>l[j]?) h
 simp only[A7,BI hj,he,I5,BL]at this;exact this
theorem xR {P:Program}{b:Bt XI}(h:b.toL.map (λp=>Lg P p.1)=b.toL.map (λp=>some p.2)):Lp P b.get:=λt i hi=>by
 have hm:=Bt.get_mem hi;obtain⟨j,hj,he⟩:=NJ hm
 have:=congrArg (λl=>l[j]?) h
 simp only[A7,BI hj,he,I5,BL]at this;exact this
def I7 (P:Program) (f:Nat) (i:FI):Prop:=∃fn,P.funcs[f]?=some fn/\fn.body=some i.code/\(fn.name == "runtime.NumGoroutine")=false/\DH fn.ntmps i.code=true/\fn.ntmps=i.nt/\fn.results.toList=i.res
def Of (P:Program):Bt FI->Prop
 | .nil=>True
 | .node k v l r=>I7 P k v/\Of P l/\Of P r
theorem Uv {P:Program}:∀ {b:Bt FI},Of P b->∀f i,b.get f=some i->I7 P f i
 | .nil,_,_,_,h=>by cases h
 | .node k v l r,h,f,i,hi=>by
  simp only[Bt.get]at hi;split at hi
  ·rename_i hb;cases hi;rw[B4 hb];exact h.1
  ·split at hi
   ·exact Uv h.2.1 f i hi
   ·exact Uv h.2.2 f i hi
def Kf (f:Func):FI:=⟨f.ntmps,f.results.toList,f.body.getD .skip⟩
def fw (rd:Option Nat):Fence:={ Fence.wide with round:=rd }
theorem KC {rd:Option Nat}{n:Nat}{P:Program}{f:FuncId}{args:Array Value}{w:World}{R:Ending->World->Prop}:CallsIn (fw rd) n P f args w R↔Calls P f args w R:=
 (show CallsIn (fw rd) n P f args w R↔CallsIn Fence.wide n P f args w R from Iff.rfl).trans callsIn_wide
theorem LE {rd:Option Nat}{n:Nat}:(fw rd).depth.isSome=true->1<=n:=λh=>by cases h
theorem Po {P:Program}{ρ:Operand->Value}{o:Oper}{w w':World}{x:Next}(h:(execOp ρ o).run P w=.ok x w')(hx:∀d,x≠.defer d):∀c,o.op≠.defer c:=λc hc=>by
 unfold execOp at h;simp only[hc]at h;rw[run_bind]at h;split at h
 ·cases h;exact hx _ rfl
 ·cases h
section
variable {C:A8} {F:Ab} {ops:Array Oper} {rd:Option Nat} {Q:Exit->Act->World->Prop}
theorem Na {P:Program}{o:Oper}{a:Act}{w w':World}{v:Value}{K:Act->World->Prop}(h:(execOp a.eval o).run P w=.ok (.value v) w')(hk:K (a.put o.dst v) w'):o.wpIn (fw rd) 0 P a w K Q:=by
 refine⟨λ_ _=>trivial,?_⟩;rw[Oper.semAt_eq _ _ _ (Po h (by simp)),h];exact hk
theorem gO {P:Program}{o:Oper}{a:Act}{w w':World}{K:Act->World->Prop}(h:(execOp a.eval o).run P w=.ok .skip w')(hk:K (a.put o.dst undef) w'):o.wpIn (fw rd) 0 P a w K Q:=by
 refine⟨λ_ _=>trivial,?_⟩;rw[Oper.semAt_eq _ _ _ (Po h (by simp)),h];exact hk
theorem gM {P:Program}{o:Oper}{a:Act}{w w':World}{f:Nat}{vs:Array Value}{K:Act->World->Prop}(h:(execOp a.eval o).run P w=.ok (.enter f vs) w')
  (hc:Calls P f vs w' λe w''=>∃v,e=.returned v/\K (a.put o.dst v) w''):o.wpIn (fw rd) 0 P a w K Q:=by
 refine⟨λ_ _=>trivial,?_⟩;rw[Oper.semAt_eq _ _ _ (Po h (by simp)),h];refine⟨LE,KC.2 (hc.mono ?_)⟩;rintro e w'' ⟨v,rfl,hk⟩;exact hk
theorem gN {P:Program}{o:Oper}{a:Act}{w w':World}{l f:Nat}{tmps:Array Value}{as bd:Code}{K:Act->World->Prop}(h:(execOp a.eval o).run P w=.ok (.round l f tmps as bd) w')
  (hc:RoundIn (fw rd) 0 P l f tmps as bd w' λe w''=>∃v,e=.returned v/\K (a.put o.dst v) w''):o.wpIn (fw rd) 0 P a w K Q:=by
 refine⟨λ_ _=>trivial,?_⟩;rw[Oper.semAt_eq _ _ _ (Po h (by simp)),h];refine⟨LE,hc.mono ?_⟩;rintro e w'' ⟨v,rfl,hk⟩;exact hk
theorem FT {R:Exit->Act->World->Prop}{l2:List Nat}(hR:∀e a w,R e a w->e=.normal/\wpOpsIn (fw rd) 0 C.P ops Q l2 a w)(hnd:∀(i:Nat) (o:Oper),ops[i]?=some o->∀c,o.op≠.defer c):
  ∀(l:List Nat) (a:Act) (w:World),wpOps C.P ops R l a w->wpOpsIn (fw rd) 0 C.P ops Q (l++l2) a w
 | [],a,w,h=>(hR _ _ _ h).2
 |i::l,a,w,h=>by
  have hlet:¬LetsOut R:=λ⟨a,w,h⟩=>by have:=(hR _ _ _ h).1;cases this
  simp only[wpOps]at h;simp only[ES,wpOpsIn];cases ho:ops[i]? with
  |none=>simp only[ho]at h;exact FT hR hnd l a w h
  |some o=>
   simp only[ho]at h;dsimp only;split
   ·rename_i hw
    rw[AH hw]at h;rcases h with h|⟨_,h⟩
    ·unfold Oper.wp at h
     refine⟨λ_ _=>trivial,?_⟩;rw[Oper.semAt_eq _ _ _ (hnd i o ho)]
     revert h
     generalize(execOp a.eval o).run C.P w=r;intro h;unfold Oper.upon at h;unfold Oper.uponIn;split at h
     ·exact FT hR hnd l _ _ h
     ·exact FT hR hnd l _ _ h
     ·exact FT hR hnd l _ _ h
     ·refine⟨LE,KC.2 (h.mono ?_)⟩
      intro e w'' h;cases e with
      |returned v=>exact FT hR hnd l _ _ h
      |panicked c=>have:=(hR _ _ _ h).1;cases this
      |outgrown=>exact AZ h hlet
     ·exact⟨LE,λc cs hr=>by
       obtain⟨v,w',h1,h2⟩:=h c cs;exact⟨v,w',FT hR hnd l _ _ h1,stepsIn_wide.2 h2⟩⟩
     ·have:=(hR _ _ _ h).1;cases this
     ·exact h.elim
    ·exact AZ h hlet
   ·rename_i hw
    rw[AG hw]at h;exact⟨λ_ _=>trivial,FT hR hnd l _ _ h⟩
theorem R0 {Q:Exit->Act->World->Prop}:∀(l:List Nat) (fuel:Nat) (L:Array Bool) (a:Act) (w:World),L.size=ops.size->l.length<=fuel->(∀i,i<ops.size->(Ls L i↔i∉l))->l.Nodup ->
  (∀A i B,l=A++i::B->(∀j∈F7 ops i,j<ops.size/\j∉i::B)/\∀j∈A,DR ops i j)->(∀i∈l,i<ops.size)->Cl ops L ->
  wpOpsIn (fw rd) 0 C.P ops Q l a w->wpAnyIn (fw rd) 0 C.P .any ops Q fuel L a w
 | [],fuel,L,a,w,hs,_,hl,_,_,_,_,h=>by
  have hr:Region.ready .any ops L=[]:=by
   apply List.eq_nil_iff_forall_not_mem.2;intro i hi;obtain⟨h1,h2,_⟩:=Ec.1 hi
   have:=(hl i h1).2 (by simp)
   unfold Ls at this;rw[Ax,Bc (by omega)]at this h2;simp at this h2;rw[this]at h2;cases h2
  cases fuel with
  |zero=>exact⟨hr,h⟩
  |succ fuel=>exact⟨λ_=>h,λi hi=>by rw[hr]at hi;simp at hi⟩
 |i::l,0,_,_,_,_,hf,_,_,_,_,_,_=>by simp at hf
 |i::l,fuel+1,L,a,w,hs,hf,hl,hnd,hd,hlt,hcl,h=>by
  have hil:=hlt i (by simp);have hLi:∀j,j<ops.size->(L.getD j true=true↔Ls L j):=λj hj=>by
   unfold Ls;rw[Ax,Ax,Bc (by omega)];simp
  have hready:∀j,j∈Region.ready .any ops L↔j=i:=by
   intro j;rw[Ec];constructor
   ·rintro⟨h1,h2,h3⟩
    have hj:j∈i::l:=by
     apply Cy;intro hn
     have:=(hLi j h1).2 ((hl j h1).2 hn)
     rw[h2]at this;cases this
    apply Cy;intro hne;have hjl:j∈l:=by simpa[hne]using hj
    obtain⟨A,B,rfl⟩:=D9 hjl;have hreach:=(hd (i::A) j B (by simp)).2 i (by simp)
    have:=E9 hs hcl hreach h3
    exact AZ ((hl i hil).1 this) (by simp)
   ·rintro rfl
    refine⟨hil,?_,λk hk=>?_⟩
    ·cases hb:L.getD j true with
     |false=>rfl
     |true=>exact AZ ((hl j hil).1 ((hLi j hil).1 hb)) (by simp)
    ·have hk2:=(hd [] j l rfl).1 k hk
     exact(hl k hk2.1).2 hk2.2
  have hset:∀j,Ls (L.setIfInBounds i true) j↔j=i\/Ls L j:=λj=>Ls.set (by omega)
  refine⟨λh0=>?_,λj hj=>?_⟩
  ·have:=(hready i).2 rfl
   rw[h0]at this;simp at this
  ·obtain rfl:=(hready j).1 hj
   rw[wpOpsIn_cons]at h;obtain⟨n1,n2⟩:=List.nodup_cons.1 hnd;refine wpOpIn_mono (λa w hk=>?_) h;refine R0 l fuel _ a w (by simp[hs]) (by simp at hf;omega) (λk hk2=>?_) n2 (λA k B hAB=>?_) (λk hk2=>hlt k (by simp[hk2])) ?_ hk
   ·rw[hset,hl k hk2]
    by_cases hkj:k=j
    ·subst hkj;simp[n1]
    ·simp[hkj]
   ·obtain⟨q1,q2⟩:=hd (j::A) k B (by simp[hAB])
    exact⟨q1,λx hx=>q2 x (by simp[hx])⟩
   ·intro k hk2 hks x hx
    have hk3:Ls (L.setIfInBounds j true) k:=by
     unfold Ls;rw[Ax,Bc (by simp;omega)]at hk2⊢;simpa using hk2
    show Ls _ x;rw[hset];rcases(hset k).1 hk3 with rfl|hk3
    ·exact .inr ((Ec.1 hj).2.2 x hx)
    ·exact .inr (hcl k ((hLi k hks).2 hk3) hks x hx)
theorem fB {Q:Exit->Act->World->Prop}{H:Hp}{n:Nat}{env:Ar}{rs:List B0}{suf:List Nat}(ho:La ops rs suf)(hgen:∀e∈H,e.g<n)(hd:∀r∈rs,DC F.nt r.o=true)
  (hst:∀A r B,rs=A++r::B->ops[r.i]?=some r.o/\B3 C F ops H (n+r.i) (EL A env) r.o r.d r.ne)
  (hend:∀(L:Array Bool) (a:Act) (w:World) (ρ:Lk) (He:Hp),L.size=ops.size->(∀r∈rs,Ls L r.i)->DI C F H n env rs L a w ρ He->wpOpsIn (fw rd) 0 C.P ops Q suf a w):
  ∀(fuel:Nat) (L:Array Bool) (a:Act) (w:World) (ρ:Lk) (He:Hp),L.size=ops.size->((rs.map (·.i)++suf).filter (λi=>!L.getD i false)).length<=fuel->Cl ops L->(∀i∈suf,¬Ls L i) ->
   DI C F H n env rs L a w ρ He->wpAnyIn (fw rd) 0 C.P .any ops Q fuel L a w:=by
 intro fuel
 induction fuel with
 |zero=>
  intro L a w ρ He hL hf hc hs hi;have h0:(rs.map (·.i)++suf).filter (λi=>!L.getD i false)=[]:=ET (by omega);have hall:∀r∈rs,Ls L r.i:=λr hr=>by
   have:=List.filter_eq_nil_iff.1 h0 r.i (by simp;exact .inl ⟨r,hr,rfl⟩)
   simpa[Ls]using this
  have hsuf:suf=[]:=by
   apply List.eq_nil_iff_forall_not_mem.2;intro i hi2
   have:=List.filter_eq_nil_iff.1 h0 i (by simp[hi2])
   exact hs i hi2 (by simpa[Ls]using this)
  subst hsuf;refine R0 [] 0 L a w hL (Ai _) (λi hi2=>⟨λ_=>by simp,λ_=>?_⟩) .nil (λA i B h=>by cases A<;>simp at h) (by simp) hc (hend L a w ρ He hL hall hi)
  have:=ho.all i hi2
  simp at this;obtain⟨r,hr,rfl⟩:=this;exact hall r hr
 |succ fuel ih=>
  intro L a w ρ He hL hf hc hs hi
  by_cases hall:∀r∈rs,Ls L r.i
  ·refine R0 suf (fuel+1) L a w hL ?_ (λi hi2=>?_) ?_ (λA i B hAB=>⟨λj hj=>?_,λj hj=>ho.suf A i B hAB j (by simp[hj])⟩) (λi hi2=>ho.lt i (by simp[hi2])) hc (hend L a w ρ He hL hall hi)
   ·refine BR ?_ hf
    rw[List.filter_append,Bk];rw[(List.filter_eq_self (l:=suf)).2 λi hi2=>by have:=hs i hi2;unfold Ls at this;simpa using this];omega
   ·constructor
    ·intro h1 h2;exact hs i h2 h1
    ·intro h1
     have:=ho.all i hi2
     rcases List.mem_append.1 this with h|h
     ·obtain⟨r,hr,rfl⟩:=List.mem_map.1 h;exact hall r hr
     ·exact AZ h h1
   ·exact(Dp.1 ho.nodup).2.1
   ·have hA:=ho.first (rs.map (·.i)++A) i B (by simp[hAB]) j hj
    refine⟨ho.lt j (by rw[hAB];rcases List.mem_append.1 hA with h|h<;>simp[h]),λhB=>?_⟩;have hnd:=ho.nodup;rw[hAB,<-Do,Dp]at hnd;exact hnd.2.2 j hA j hB rfl
  ·have hnot:∃r∈rs,¬Ls L r.i:=by
    apply Cy;intro hn;exact hall λr hr=>Cy λh=>hn ⟨r,hr,h⟩
   have hLt:∀j,j<ops.size->(L.getD j true=true↔Ls L j):=λj hj=>by
    unfold Ls;rw[Ax,Ax,Bc (by omega)];simp
   have hsome:Region.ready .any ops L≠[]:=by
    obtain⟨r0,hr0,hn0⟩:=hnot
    have:∀X:List B0,∀Y,rs=X++Y->(∃r∈Y,¬Ls L r.i)->(∀r∈X,Ls L r.i)->∃A r B,rs=A++r::B/\¬Ls L r.i/\∀r∈A,Ls L r.i:=by
     intro X Y
     induction Y generalizing X with
     |nil=>rintro _ ⟨r,hr,_⟩ _;simp at hr
     |cons y Y ihY=>
      intro hXY hex hX
      by_cases hy:Ls L y.i
      ·obtain⟨r,hr,hrn⟩:=hex
       rcases BA.1 hr with rfl|hr
       ·exact AZ hy hrn
       ·exact ihY (X++[y]) (by simp[hXY]) ⟨r,hr,hrn⟩ (λr hr=>by
         rcases List.mem_append.1 hr with h|h
         ·exact hX r h
         ·simp at h;subst h;exact hy)
      ·exact⟨X,y,Y,hXY,hy,hX⟩
    obtain⟨A,r,B,h1,h2,h3⟩:=this [] rs rfl ⟨r0,hr0,hn0⟩ (by simp);intro hnil;have hrlt:=ho.lt r.i (by rw[h1];simp)
    have:r.i∈Region.ready .any ops L:=by
     rw[Ec];refine⟨hrlt,?_,λj hj=>?_⟩
     ·cases hb:L.getD r.i true with
      |false=>rfl
      |true=>exact AZ ((hLt r.i hrlt).1 hb) h2
     ·have:=ho.first (A.map (·.i)) r.i (B.map (·.i)++suf) (by rw[h1];simp) j hj
      obtain⟨r',hr',rfl⟩:=List.mem_map.1 this;exact h3 r' hr'
    rw[hnil]at this;simp at this
   refine⟨λh0=>AZ h0 hsome,λi hir=>?_⟩;obtain⟨hilt,hin,hid⟩:=Ec.1 hir;have hnL:¬Ls L i:=λh=>by rw[(hLt i hilt).2 h]at hin;cases hin
   have hpre:i∈rs.map (·.i):=by
    rcases List.mem_append.1 (ho.all i hilt)with h|h
    ·exact h
    ·obtain⟨A,B,hAB⟩:=D9 h
     obtain⟨r0,hr0,hn0⟩:=hnot
     have:=E9 hL hc (ho.suf A i B hAB r0.i (Jq _ (List.mem_map.2 ⟨r0,hr0,rfl⟩))) hid
     exact AZ this hn0
   obtain⟨r,hr,rfl⟩:=List.mem_map.1 hpre;obtain⟨A,B,hAB⟩:=D9 hr;obtain⟨hor,hgen2,hsteady⟩:=hst A r B hAB;have hset:∀j,Ls (L.setIfInBounds r.i true) j↔j=r.i\/Ls L j:=λj=>Ls.set (by omega)
   have hndr:(rs.map (·.i)).Nodup:=(Dp.1 ho.nodup).1;have hsub:∀e∈H,e∈He:=λe he=>hi.perm.mem_iff.2 (by simp[he])
   have hfr:∀k,ρ k (n+r.i)=none:=λk=>by
    apply Cy;intro hk;obtain⟨r',h1,h2,h3⟩:=hi.fresh k (n+r.i) (by omega) hk
    have:r'.i=r.i:=by omega
    rw[this]at h2;exact hnL h2
   have hne:∀e∈He,e.g≠n+r.i:=λe he hg=>by
    rcases List.mem_append.1 (hi.perm.mem_iff.1 he)with h|h
    ·obtain⟨r',h1,h2⟩:=List.mem_filterMap.1 h
     split at h2
     ·rename_i hl
      obtain⟨A',B',hAB'⟩:=D9 h1
      have:=(hst A' r' B' hAB').2.1 e h2
      have:r'.i=r.i:=by omega
      rw[this]at hl;exact hnL hl
     ·cases h2
    ·have:=hgen e h;omega
   have next:∀v ρ' w',Ip C F He ρ w (n+r.i) r.d r.ne v ρ' w'->wpAnyIn (fw rd) 0 C.P .any ops Q fuel (L.setIfInBounds r.i true) (a.put r.o.dst v) w':=by
    intro v ρ' w' p;have hi':=hi;rw[hAB]at hi' hndr;have hdst:=ho.dst;rw[hAB]at hdst;have hn':=DI.next hi' (by omega) hnL hndr hdst (hd r hr) p;rw[<-hAB]at hn';refine ih _ _ _ ρ' (Cs r.ne He) (by simp[hL]) ?_ ?_ (λj hj=>?_) hn'
    ·have:((rs.map (·.i)++suf).filter (λi=>!(L.setIfInBounds r.i true).getD i false)).length<((rs.map (·.i)++suf).filter (λi=>!L.getD i false)).length:=by
      have sub:(rs.map (·.i)++suf).filter (λi=>!(L.setIfInBounds r.i true).getD i false)=((rs.map (·.i)++suf).filter (λi=>!L.getD i false)).filter (λi=>!Nat.beq i r.i):=by
       rw[List.filter_filter];apply List.filter_congr;intro x hx;have h1:=hset x;unfold Ls at h1
       by_cases hxr:x=r.i
       ·subst hxr
        have:(L.setIfInBounds r.i true).getD r.i false=true:=h1.2 (.inl rfl)
        simp[this]
       ·have hb:Nat.beq x r.i=false:=by
         cases hb:Nat.beq x r.i with
         |false=>rfl
         |true=>exact AZ (B4 hb) hxr
        rw[hb]
        by_cases hlx:L.getD x false=true
        ·rw[h1.2 (.inr hlx),hlx];rfl
        ·have:¬(L.setIfInBounds r.i true).getD x false=true:=λh=>hlx ((h1.1 h).resolve_left hxr)
         simp only[Bool.not_eq_true]at this hlx;rw[this,hlx];rfl
      rw[sub];apply List.length_filter_lt_length_iff_exists.2;exact⟨r.i,by rw[List.mem_filter];exact⟨by simp;exact .inl ⟨r,hr,rfl⟩,by unfold Ls at hnL;simpa using hnL⟩,by simp⟩
     omega
    ·intro k hk2 hks x hx
     have hk3:Ls (L.setIfInBounds r.i true) k:=by
      unfold Ls;rw[Ax,Bc (by simp;omega)]at hk2⊢;simpa using hk2
     show Ls _ x;rw[hset];rcases(hset k).1 hk3 with rfl|hk3
     ·exact .inr (hid x hx)
     ·exact .inr (hc k ((hLt k hks).2 hk3) hks x hx)
    ·rw[hset]
     rintro(rfl|h)
     ·have hnd:=ho.nodup
      rw[Dp]at hnd;exact hnd.2.2 r.i (List.mem_map.2 ⟨r,hr,rfl⟩) r.i hj rfl
     ·exact hs j hj h
   unfold wpOpIn;simp only[hor];rcases hsteady He ρ a w hi.mem hsub hfr hne (hi.look ho hL hc hAB hir)with⟨hw,hn0,hrep⟩|⟨hw,hout⟩
   ·rw[AG (by rw[hw];simp)]
    exact⟨λ_ _=>trivial,next undef ρ w ⟨by rw[hn0];exact hi.mem,by rw[hn0];exact .refl _ _ _,λ_ _ _=>rfl,by rw[hn0];exact hrep⟩⟩
   ·rw[AH hw]
    rcases hout with⟨v,ρ',w',h1,h2⟩|⟨f,vs,h1,h2⟩
    ·exact Na h1 (next v ρ' w' h2)
    ·refine gM h1 (h2.mono ?_)
     rintro e w' ⟨v,rfl,ρ',h3⟩;exact⟨v,rfl,next v ρ' w' h3⟩
theorem u5 {R:Exit->Act->World->Prop}{i:Nat}{s:St}{pre suf:List Nat}{envF:Ar}{N:Hp}(hm:C.P.follows .mixedOrders=true)(hc:G7 ops pre suf=true)
  (hpre:IY C F ops s.H s.n pre s.env [] envF N)
  (h:(∀j∈suf,j<ops.size)->∀(ρ:Lk) (a:Act) (w:World),Bj C F ρ ⟨envF,N++s.H,s.n+ops.size⟩ a w->wpOpsIn (fw rd) 0 C.P ops R suf a w) (hd:ops.toList.all (DC F.nt)=true) (ρ:Lk) (a:Act) (w:World) (hs:Bj C F ρ s a w):
  (Code.region i ops true).wpIn (fw rd) 0 C.P R a w:=by
 obtain⟨rs,h1,h2,h3,h4⟩:=hpre.recs;have hor:∀r∈rs,ops[r.i]?=some r.o:=λr hr=>by
  obtain⟨A,B,hAB⟩:=D9 hr;exact(h4 A r B hAB).1
 have ho:=Py h1 hor hc;have hds:∀r∈rs,DC F.nt r.o=true:=λr hr=>by
  refine CQ.1 hd r.o ?_
  have:=hor r hr
  exact Array.mem_toList_iff.2 (Hm this)
 have hrep:∀j,(Array.replicate ops.size false).getD j false=false:=λj=>by
  rw[Ax];rw[Kn];split<;>rfl
 have hnL:∀j,¬Ls (Array.replicate ops.size false) j:=λj hj=>by unfold Ls at hj;rw[hrep]at hj;cases hj
 refine wpIn_region_any hm ?_;have hin:DI C F s.H s.n s.env rs (Array.replicate ops.size false) a w.drew ρ s.H:=by
  refine⟨hs.mem.drew,?_,λr _ hl=>AZ hl (hnL _),λt _=>(hs.env t).mono (.drew _ _ _),λk g hg hk=>AZ (hs.fresh k g hg) hk,hs.nt,hs.dfr⟩
  have:rs.filterMap (λr=>if(Array.replicate ops.size false).getD r.i false then r.ne else none)=[]:=by
   rw[RV];intro r _;rw[hrep];rfl
  rw[this];exact List.Perm.refl _
 refine fB ho hs.gen hds h4 ?_ ops.size _ a w.drew ρ s.H (by simp) ?_ ?_ (λj _=>hnL j) hin
 ·intro L a' w' ρ' He hL hall hi
  have hN:He.Perm (N++s.H):=by
   refine hi.perm.trans (List.Perm.append_right _ ?_);have e:rs.filterMap (λr=>if L.getD r.i false then r.ne else none)=rs.filterMap (·.ne):=JE λr hr=>by
    have:=hall r hr;unfold Ls at this;rw[this];rfl
   rw[e,h3]
   have:=K8 rs []
   rw[DX]at this;exact this.symm
  refine h (λj hj=>ho.lt j (by simp[hj])) ρ' a' w' ⟨hi.mem.perm hN,?_,?_,λt=>?_,hi.nt,hi.dfr⟩
  ·intro k g hg
   apply Cy;intro hk;obtain⟨r,hr,_,he⟩:=hi.fresh k g (by simp at hg;omega) hk
   have:=ho.lt r.i (by simp;exact .inl ⟨r,hr,rfl⟩)
   simp at hg;omega
  ·intro e he
   rcases List.mem_append.1 he with he|he
   ·rw[h3]at he
    have he:=(K8 rs []).mem_iff.1 he;rw[DX]at he;obtain⟨r,hr,hre⟩:=List.mem_filterMap.1 he;obtain⟨A,B,hAB⟩:=D9 hr
    have:=(h4 A r B hAB).2.1 e hre
    have:=ho.lt r.i (by simp;exact .inl ⟨r,hr,rfl⟩)
    show e.g<s.n+ops.size;omega
   ·have:=hs.gen e he
    show e.g<s.n+ops.size;omega
  ·show AU ρ' (AM F.X ρ' (N++s.H)) w' (envF.get t) _
   rw[<-AM.perm hN,h2]
   by_cases hw:∃r∈rs,r.o.dst=some t
   ·obtain⟨r,hr,hrd⟩:=hw
    rw[LD rs s.env t ho.dst r hr hrd];exact hi.reps r hr (hall r hr) t hrd
   ·rw[Ic rs s.env t λr hr hrd=>hw ⟨r,hr,hrd⟩]
    exact hi.old t λr hr _ hrd=>hw ⟨r,hr,hrd⟩
 ·refine BR (List.length_filter_le _ _) ?_
  have hsub:∀(l:List Nat) (n:Nat),l.Nodup->(∀x∈l,x<n)->l.length<=n:=by
   intro l n
   induction n generalizing l with
   |zero=>intro _ h;cases l with
    |nil=>simp
    |cons x l=>exact AZ (h x (by simp)) (by omega)
   |succ n ihn=>
    intro hnd hlt;have h1:=ihn (l.erase n) (hnd.erase n) λx hx=>by
     have:=hlt x (List.mem_of_mem_erase hx)
     have:x≠n:=λh=>by subst h;exact(RX hnd) hx
     omega
    have:=List.length_erase (a:=n) (l:=l)
    split at this<;>omega
  exact hsub _ _ ho.nodup ho.lt
 ·intro k hk
  have:k<ops.size\/¬k<ops.size:=by omega
  rcases this with hlt|hlt
  ·rw[Ax,Kn,AH hlt]at hk;cases hk
  ·intro h;exact AZ h hlt
theorem JI {R Q:Exit->Act->World->Prop}(hR:∀e a w,R e a w->e=.normal/\Q .normal a w)(hnd:∀(i:Nat) (o:Oper),ops[i]?=some o->∀c,o.op≠.defer c):
  ∀(fuel:Nat) (L:Array Bool) (a:Act) (w:World),wpAny C.P .any ops R fuel L a w->wpAnyIn (fw rd) 0 C.P .any ops Q fuel L a w
 | 0,L,a,w,h=>⟨h.1,(hR _ _ _ h.2).2⟩
 |fuel+1,L,a,w,h=>⟨λh0=>(hR _ _ _ (h.1 h0)).2,λi hi=>by
   have hlet:¬LetsOut R:=λ⟨a,w,h⟩=>by have:=(hR _ _ _ h).1;cases this
   have hq:=h.2 i hi;unfold wpOp at hq;unfold wpOpIn;split
   ·rename_i ho;simp only[ho]at hq;exact JI hR hnd fuel _ a w hq
   ·rename_i o ho
    simp only[ho]at hq;split
    ·rename_i hw
     rw[AH hw]at hq;rcases hq with hq|⟨_,hq⟩
     ·unfold Oper.wp at hq
      refine⟨λ_ _=>trivial,?_⟩;rw[Oper.semAt_eq _ _ _ (hnd i o ho)]
      revert hq
      generalize(execOp a.eval o).run C.P w=r;intro hq;unfold Oper.upon at hq;unfold Oper.uponIn;split at hq
      ·exact JI hR hnd fuel _ _ _ hq
      ·exact JI hR hnd fuel _ _ _ hq
      ·exact JI hR hnd fuel _ _ _ hq
      ·refine⟨LE,KC.2 (hq.mono ?_)⟩
       intro e w'' h;cases e with
       |returned v=>exact JI hR hnd fuel _ _ _ h
       |panicked c=>have:=(hR _ _ _ h).1;cases this
       |outgrown=>exact AZ h hlet
      ·exact⟨LE,λc cs hr=>by
        obtain⟨v,w',h1,h2⟩:=hq c cs;exact⟨v,w',JI hR hnd fuel _ _ _ h1,stepsIn_wide.2 h2⟩⟩
      ·have:=(hR _ _ _ hq).1;cases this
      ·exact hq.elim
     ·exact AZ hq hlet
    ·rename_i hw
     rw[AG hw]at hq;exact⟨λ_ _=>trivial,JI hR hnd fuel _ _ _ hq⟩⟩
end
end Go.Ide
